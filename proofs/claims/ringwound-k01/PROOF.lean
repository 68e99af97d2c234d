import PyProof.Rows.All
import Wide.All
import OpenK.AllK
import Wide.FinOn
import HandS.ForMost
import HandS.ForExc
import HandS.HotCalls
import HandS.ExcCtx
import HandS.Lambda
import HandS.Wide
import HandS.TupAny
import HandS.TupMul
import HandS.IsInst
import HandS.Conv
import HandS.Style
import KE.KTupSum
import HandS.SortInts
import HandS.ExcIs
import PyProof.TupleIter
import HandS.CallLocal
import HandS.HeadHook4
import HandS.HeadWalk
import HandS.Head0
import HandS.Head1
import HandS.Head2
import HandS.HeadEnd
import KE.KStateDown
import Lean
import PySem.Challenge.RW_ringwound_k01_scripts_and_their_divisors
set_option Elab.async false
set_option linter.all false
set_option maxRecDepth 100000
set_option maxHeartbeats 4000000
namespace Wn
open PySem L2
/-- data: what a value reads as -/
inductive D where
  | non | bl (b : Bool) | int (i : Int) | str (x : Str) | ref (a : Addr)
  | kl (xs : List D) | kt (xs : List D) | tup (xs : List D) | lst (xs : List D) | dK (ks : List Key) (vs : List D) | dT (ks : List (List Key)) (vs : List D)
mutual
/-- the value v reads as d over the part G of the heap -/
def Rp (K : PySem.W.Frag) (G : Hp) : D → V → Prop
  | .non, v => v = .non
  | .bl b, v => v = .bl b
  | .int i, v => v = .int i
  | .str x, v => v = .str x
  | .ref a, v => v = .ref a
  | .kl ds, v => ∃ a xs, v = .ref a ∧ SqL K G a xs ∧ RpA K G ds xs
  | .kt ds, v => ∃ a xs, v = .ref a ∧ SqT K G a xs ∧ RpA K G ds xs
  | .tup ds, v => ∃ a xs, v = .ref a ∧ G a = some (.tup xs) ∧ RpA K G ds xs
  | .lst ds, v => ∃ a xs, v = .ref a ∧ G a = some (.lst xs) ∧ RpA K G ds xs
  | .dK ks ds, v => ∃ a ws, v = .ref a ∧ G a = some (.dK ws) ∧ ws.map (·.1) = ks ∧ RpA K G ds (ws.map (·.2))
  | .dT ks ds, v => ∃ a ws, v = .ref a ∧ G a = some (.dT ws) ∧ ws.map (·.1) = ks ∧ RpA K G ds (ws.map (·.2))
def RpA (K : PySem.W.Frag) (G : Hp) : List D → List V → Prop
  | [], xs => xs = []
  | d :: ds, xs => ∃ x r, xs = x :: r ∧ Rp K G d x ∧ RpA K G ds r
end
section
variable {K : PySem.W.Frag} {G G' H : Hp}
theorem same_seqT {a : Addr} {xs : List V} (e : Same G G') (h : SqT K G a xs) : SqT K G' a xs := by
  rcases h with (h | ⟨o, h⟩) | h
  · exact .inl (.inl (e _ _ h))
  · exact .inl (.inr ⟨o, e _ _ h⟩)
  · exact .inr h
mutual
theorem Rp.mono (e : Same G G') : ∀ (d : D) (v : V), Rp K G d v → Rp K G' d v
  | .non, _, h => h
  | .bl _, _, h => h
  | .int _, _, h => h
  | .str _, _, h => h
  | .ref _, _, h => h
  | .kl ds, _, ⟨a, xs, h1, h2, h3⟩ => ⟨a, xs, h1, e.seq h2, RpA.mono e ds xs h3⟩
  | .kt ds, _, ⟨a, xs, h1, h2, h3⟩ => ⟨a, xs, h1, same_seqT e h2, RpA.mono e ds xs h3⟩
  | .tup ds, _, ⟨a, xs, h1, h2, h3⟩ => ⟨a, xs, h1, e _ _ h2, RpA.mono e ds xs h3⟩
  | .lst ds, _, ⟨a, xs, h1, h2, h3⟩ => ⟨a, xs, h1, e _ _ h2, RpA.mono e ds xs h3⟩
  | .dK _ ds, _, ⟨a, ws, h1, h2, h3, h4⟩ => ⟨a, ws, h1, e _ _ h2, h3, RpA.mono e ds _ h4⟩
  | .dT _ ds, _, ⟨a, ws, h1, h2, h3, h4⟩ => ⟨a, ws, h1, e _ _ h2, h3, RpA.mono e ds _ h4⟩
theorem RpA.mono (e : Same G G') : ∀ (ds : List D) (xs : List V), RpA K G ds xs → RpA K G' ds xs
  | [], _, h => h
  | d :: ds, _, ⟨x, r, h1, h2, h3⟩ => ⟨x, r, h1, Rp.mono e d x h2, RpA.mono e ds r h3⟩
end
theorem RpA.len : ∀ {ds : List D} {xs : List V}, RpA K G ds xs → xs.length = ds.length
  | [], xs, h => by
    rw [show xs = [] from h] <;> rfl
  | d :: ds, xs, ⟨x, r, h1, _, h3⟩ => by
    rw [h1, List.length_cons, List.length_cons, RpA.len h3]
theorem RpA.cons {d : D} {ds : List D} {x : V} {xs : List V} (h : Rp K G d x) (r : RpA K G ds xs) : RpA K G (d :: ds) (x :: xs) := ⟨x, xs, rfl, h, r⟩
theorem RpA.nil : RpA K G [] [] := rfl
theorem RpA.app : ∀ {ds es : List D} {xs ys : List V}, RpA K G ds xs → RpA K G es ys → RpA K G (ds ++ es) (xs ++ ys)
  | [], es, xs, ys, h, h' => by
    rw [show xs = [] from h]
    exact h'
  | d :: ds, es, xs, ys, ⟨x, r, h1, h2, h3⟩, h' => by
    rw [h1]
    exact ⟨x, r ++ ys, rfl, h2, RpA.app h3 h'⟩
theorem RpA.snoc {d : D} {ds : List D} {x : V} {xs : List V} (r : RpA K G ds xs) (h : Rp K G d x) : RpA K G (ds ++ [d]) (xs ++ [x]) := r.app (.cons h .nil)
theorem RpA.get : ∀ {ds : List D} {xs : List V} {i : Nat} {d : D}, RpA K G ds xs → ds[i]? = some d → ∃ x, xs[i]? = some x ∧ Rp K G d x
  | [], _, _, _, _, e => by simp at e
  | d :: ds, _, 0, _, ⟨x, r, h1, h2, h3⟩, e => by
    rw [h1]
    have e' : d = _ := Option.some.inj e
    subst e'
    exact ⟨x, rfl, h2⟩
  | d :: ds, _, i + 1, d', ⟨x, r, h1, h2, h3⟩, e => by
    rw [h1]
    obtain ⟨y, hy, q⟩ := RpA.get (i := i) (d := d') h3 (by simpa using e)
    exact ⟨y, by simpa using hy, q⟩
theorem RpA.take : ∀ {ds : List D} {xs : List V} (n : Nat), RpA K G ds xs → RpA K G (ds.take n) (xs.take n)
  | _, _, 0, _ => by simp; rfl
  | [], xs, n + 1, h => by
    rw [show xs = [] from h]
    exact rfl
  | d :: ds, xs, n + 1, ⟨x, r, h1, h2, h3⟩ => by
    rw [h1]
    exact ⟨x, r.take n, rfl, h2, RpA.take n h3⟩
theorem RpA.drop : ∀ {ds : List D} {xs : List V} (n : Nat), RpA K G ds xs → RpA K G (ds.drop n) (xs.drop n)
  | _, _, 0, h => h
  | [], xs, n + 1, h => by
    rw [show xs = [] from h]
    exact rfl
  | d :: ds, xs, n + 1, ⟨x, r, h1, h2, h3⟩ => by
    rw [h1]
    exact RpA.drop n h3
theorem RpA.set {d : D} {x : V} (hx : Rp K G d x) : ∀ {ds : List D} {xs : List V} (n : Nat), RpA K G ds xs → RpA K G (ds.set n d) (xs.set n x)
  | [], xs, n, h => by
    rw [show xs = [] from h]
    exact rfl
  | d' :: ds, xs, 0, ⟨x', r, h1, h2, h3⟩ => by
    rw [h1]
    exact ⟨x, r, rfl, hx, h3⟩
  | d' :: ds, xs, n + 1, ⟨x', r, h1, h2, h3⟩ => by
    rw [h1]
    exact ⟨x', r.set n x, rfl, h2, RpA.set hx n h3⟩
theorem RpA.rev : ∀ {ds : List D} {xs : List V}, RpA K G ds xs → RpA K G ds.reverse xs.reverse
  | [], xs, h => by
    rw [show xs = [] from h]
    exact rfl
  | d :: ds, xs, ⟨x, r, h1, h2, h3⟩ => by
    rw [h1, List.reverse_cons, List.reverse_cons]
    exact (RpA.rev h3).snoc h2
theorem RpA.ints : ∀ {ns : List Int} {xs : List V}, RpA K G (ns.map D.int) xs → xs = ns.map V.int
  | [], xs, h => h
  | n :: ns, xs, ⟨x, r, h1, h2, h3⟩ => by
    rw [h1, RpA.ints h3, show x = V.int n from h2] <;> rfl
theorem RpA.of_ints : ∀ (ns : List Int), RpA K G (ns.map D.int) (ns.map V.int)
  | [] => rfl
  | n :: ns => ⟨_, _, rfl, rfl, RpA.of_ints ns⟩
theorem RpA.bls : ∀ {ns : List Bool} {xs : List V}, RpA K G (ns.map D.bl) xs → xs = ns.map V.bl
  | [], xs, h => h
  | n :: ns, xs, ⟨x, r, h1, h2, h3⟩ => by
    rw [h1, RpA.bls h3, show x = V.bl n from h2] <;> rfl
theorem RpA.strs : ∀ {ns : List Str} {xs : List V}, RpA K G (ns.map D.str) xs → xs = ns.map V.str
  | [], xs, h => h
  | n :: ns, xs, ⟨x, r, h1, h2, h3⟩ => by
    rw [h1, RpA.strs h3, show x = V.str n from h2] <;> rfl
end
/-- not a table of code objects -/
def NT (o : HO) : Prop := ∀ ps, o ≠ .tbl ps
/-- what is not the law's source, nor a table -/
def vw (s : Option Addr) (H : Hp) : Hp := fun b => if s = some b then none else match H b with
  | some (.tbl _) => none
  | o => o
theorem vw_of {s : Option Addr} {H : Hp} {b : Addr} {o : HO} (h : vw s H b = some o) : H b = some o ∧ s ≠ some b ∧ NT o := by
  unfold vw at h
  by_cases c : s = some b
  · rw [if_pos c] at h
    cases h
  · rw [if_neg c] at h
    cases e : H b with
    | none =>
      rw [e] at h
      cases h
    | some u =>
      rw [e] at h
      cases u <;> first
        | (cases h; exact ⟨rfl, c, fun ps z => by cases z⟩)
        | cases h
theorem vw_at {s : Option Addr} {H : Hp} {b : Addr} {o : HO} (h : H b = some o) (c : s ≠ some b) (n : NT o) : vw s H b = some o := by
  unfold vw
  rw [if_neg c, h]
  cases o <;> first
    | rfl
    | exact absurd rfl (n _)
theorem vw_sub {s : Option Addr} {H : Hp} : Same (vw s H) H := fun b o h => (vw_of h).1
/-- the source list as it stands -/
def Src (a : Addr) (H : Hp) : Prop := ∃ x y : Int, H a = some (.lst [.int x, .int y]) ∧ 0 ≤ x ∧ 0 ≤ y ∧ y < 2147483648
abbrev Tbl := List (Addr × Str)
structure Gr (T : Tbl) (s : Option Addr) (H H' : Hp) : Prop where
  ex : Same (vw s H) (vw s H')
  al : ∀ b, H b ≠ none → H' b ≠ none
  sr : ∀ a, s = some a → Src a H → Src a H'
  tb : LamX.Tabs T H → LamX.Tabs T H'
section
variable {T : Tbl} {s : Option Addr} {G G0 G1 G2 H H0 H1 H2 : Hp}
theorem Gr.refl : Gr T s H H := ⟨fun _ _ h => h, fun _ h => h, fun _ _ h => h, fun h => h⟩
theorem Gr.trans (a : Gr T s H H1) (b : Gr T s H1 H2) : Gr T s H H2 := ⟨fun c o h => b.ex c o (a.ex c o h), fun c h => b.al c (a.al c h), fun c e h => b.sr c e (a.sr c e h), fun h => b.tb (a.tb h)⟩
theorem Gr.none_of (g : Gr T s H H1) {b : Addr} (h : H1 b = none) : H b = none := by
  cases e : H b with
  | none => rfl
  | some o => exact absurd h (g.al b (by rw [e]; simp))
theorem Same.new {p : Addr} {o : HO} (h : H p = none) : Same H (upd H p o) := fun b u e => by
  rw [upd_ne (ne_of_none e h)]
  exact e
/-- a new object -/
theorem Gr.new {p : Addr} {o : HO} (h : H p = none) : Gr T s H (upd H p o) where
  ex := fun b u e => by
    obtain ⟨e1, e2, e3⟩ := vw_of e
    exact vw_at (by rw [upd_ne (ne_of_none e1 h)]; exact e1) e2 e3
  al := fun b hb => by
    by_cases c : b = p
    · rw [c, upd_same]
      simp
    · rw [upd_ne c]
      exact hb
  sr := fun a _ ⟨x, y, e, r⟩ => ⟨x, y, by rw [upd_ne (ne_of_none e h)]; exact e, r⟩
  tb := fun t => t.ext fun b u e => Same.new h b u e
/-- all as before -/
theorem Gr.of_same (e : Same H H1) : Gr T s H H1 where
  ex := fun b u h => by
    obtain ⟨e1, e2, e3⟩ := vw_of h
    exact vw_at (e b u e1) e2 e3
  al := fun b hb z => by
    cases q : H b with
    | none => exact hb q
    | some o =>
      rw [e b o q] at z
      cases z
  sr := fun a _ ⟨x, y, h, r⟩ => ⟨x, y, e _ _ h, r⟩
  tb := fun t => t.ext fun b u h => e b u h
structure Stp (T : Tbl) (s : Option Addr) (G G' H H' : Hp) : Prop where
  gr : Gr T s H H'
  gg : Same G G'
  gv : Same G' (vw s H')
  nw : ∀ b, G' b ≠ none → G b ≠ none ∨ H b = none
theorem Stp.refl (h : Same G (vw s H)) : Stp T s G G H H := ⟨.refl, .refl _, h, fun _ h => .inl h⟩
theorem Stp.of_gr (h : Same G (vw s H)) (g : Gr T s H H1) : Stp T s G G H H1 := ⟨g, .refl _, h.trans g.ex, fun _ h => .inl h⟩
theorem Stp.trans (a : Stp T s G G1 H H1) (b : Stp T s G1 G2 H1 H2) : Stp T s G G2 H H2 := ⟨a.gr.trans b.gr, a.gg.trans b.gg, b.gv, fun c h => by
  rcases b.nw c h with q | q
  · exact a.nw c q
  · exact .inr (a.gr.none_of q)⟩
/-- a new object, frozen -/
theorem Stp.new {p : Addr} {o : HO} (hv : Same G (vw s H)) (h : H p = none) (hs : ∀ a, s = some a → Src a H) (n : NT o) : Stp T s G (upd G p o) H (upd H p o) := by
  have gp : G p = none := by
    cases e : G p with
    | none => rfl
    | some u =>
      have z := (vw_of (hv _ _ e)).1
      rw [h] at z
      cases z
  have sp : s ≠ some p := fun z => by
    obtain ⟨x, y, e, _⟩ := hs p z
    rw [h] at e
    cases e
  refine ⟨.new h, Wn.Same.new gp, fun b u e => ?_, fun b hb => ?_⟩
  · by_cases c : b = p
    · rw [c, upd_same] at e
      cases e
      rw [c]
      exact vw_at upd_same sp n
    · rw [upd_ne c] at e
      exact (Gr.new (T := T) h).ex b u (hv b u e)
  · by_cases c : b = p
    · rw [c]
      exact .inr h
    · rw [upd_ne c] at hb
      exact .inl hb
end
/-- a slot of the frame, by data: none known; data that stands still; a list, a dict of the frame's own -/
inductive Slot where
  | no | d (x : D) | sr (a : Addr) | ow (xs : List D) | oK (ks : List Key) (vs : List D) | oT (ks : List (List Key)) (vs : List D)
structure DE where
  s : Option Addr
  sl : List Slot
def DE.set (δ : DE) (i : Nat) (o : Slot) : DE := ⟨δ.s, δ.sl.set i o⟩
def isOwn : Option Slot → Bool
  | some (.ow _) => true
  | some (.oK _ _) => true
  | some (.oT _ _) => true
  | _ => false
def SlOk (K : PySem.W.Frag) (s : Option Addr) (H0 G H : Hp) : Slot → Option V → Prop
  | .no, _ => True
  | .d x, v => ∃ u, v = some u ∧ Rp K G x u
  | .sr a, v => v = some (.ref a) ∧ s = some a ∧ H0 a = none
  | .ow xs, v => ∃ a us, v = some (.ref a) ∧ H0 a = none ∧ s ≠ some a ∧ G a = none ∧ H a = some (.lst us) ∧ RpA K G xs us
  | .oK ks xs, v => ∃ a ws, v = some (.ref a) ∧ H0 a = none ∧ s ≠ some a ∧ G a = none ∧ H a = some (.dK ws) ∧ ws.map (·.1) = ks ∧ RpA K G xs (ws.map (·.2))
  | .oT ks xs, v => ∃ a ws, v = some (.ref a) ∧ H0 a = none ∧ s ≠ some a ∧ G a = none ∧ H a = some (.dT ws) ∧ ws.map (·.1) = ks ∧ RpA K G xs (ws.map (·.2))
/-- the frame's values σ, over H, are told by δ; G stands still; G0, H0: at the def's entry -/
structure Rep (K : PySem.W.Frag) (T : Tbl) (G0 H0 G H : Hp) (σ : L2.St) (δ : DE) : Prop where
  st : Stp T δ.s G0 G H0 H
  src : ∀ a, δ.s = some a → Src a H
  tab : LamX.Tabs T H
  len : σ.length = δ.sl.length
  sl : ∀ (i : Nat) (o : Slot), δ.sl[i]? = some o → ∃ v, σ[i]? = some v ∧ SlOk K δ.s H0 G H o v
  un : ∀ (i j : Nat) (a : Addr), i ≠ j → isOwn δ.sl[i]? = true → isOwn δ.sl[j]? = true → σ[i]? = some (some (V.ref a)) → σ[j]? = some (some (V.ref a)) → False
section
variable {K : PySem.W.Frag} {T : Tbl} {s : Option Addr} {G G0 G1 H H0 H1 : Hp} {σ : L2.St} {δ : DE}
theorem SlOk.stp (x : Stp T s G G1 H H1) : ∀ {o : Slot} {v : Option V}, SlOk K s H0 G H o v → SlOk K s H0 G1 H1 o v := by
  have key : ∀ a u, s ≠ some a → G a = none → H a = some u → NT u → G1 a = none ∧ H1 a = some u := fun a u h1 h2 h3 h4 => by
    refine ⟨?_, (vw_of (x.gr.ex a u (vw_at h3 h1 h4))).1⟩
    cases e : G1 a with
    | none => rfl
    | some z =>
      rcases x.nw a (by rw [e]; simp) with q | q
      · exact absurd h2 q
      · rw [h3] at q
        cases q
  intro o v h
  cases o with
  | no => trivial
  | d y =>
    obtain ⟨u, e, r⟩ := h
    exact ⟨u, e, r.mono x.gg⟩
  | sr a => exact h
  | ow xs =>
    obtain ⟨a, us, e, h1, h2, h3, h4, h5⟩ := h
    obtain ⟨k1, k2⟩ := key a _ h2 h3 h4 (fun ps z => by cases z)
    exact ⟨a, us, e, h1, h2, k1, k2, h5.mono x.gg⟩
  | oK ks xs =>
    obtain ⟨a, us, e, h1, h2, h3, h4, h6, h5⟩ := h
    obtain ⟨k1, k2⟩ := key a _ h2 h3 h4 (fun ps z => by cases z)
    exact ⟨a, us, e, h1, h2, k1, k2, h6, h5.mono x.gg⟩
  | oT ks xs =>
    obtain ⟨a, us, e, h1, h2, h3, h4, h6, h5⟩ := h
    obtain ⟨k1, k2⟩ := key a _ h2 h3 h4 (fun ps z => by cases z)
    exact ⟨a, us, e, h1, h2, k1, k2, h6, h5.mono x.gg⟩
theorem Rep.stp (R : Rep K T G0 H0 G H σ δ) (x : Stp T δ.s G G1 H H1) : Rep K T G0 H0 G1 H1 σ δ :=
  ⟨R.st.trans x, fun a e => x.gr.sr a e (R.src a e), x.gr.tb R.tab, R.len, fun i o h => by
    obtain ⟨v, h1, h2⟩ := R.sl i o h
    exact ⟨v, h1, h2.stp x⟩, R.un⟩
theorem Rep.gv (R : Rep K T G0 H0 G H σ δ) : Same G (vw δ.s H) := R.st.gv
theorem Rep.gr (R : Rep K T G0 H0 G H σ δ) (g : Gr T δ.s H H1) : Rep K T G0 H0 G H1 σ δ := R.stp (.of_gr R.gv g)
theorem Rep.fresh (R : Rep K T G0 H0 G H σ δ) {p : Addr} {o : HO} (h : H p = none) (n : NT o) : Stp T δ.s G (upd G p o) H (upd H p o) := .new R.gv h R.src n
/-- a slot takes data -/
theorem Rep.setD (R : Rep K T G0 H0 G H σ δ) {i : Nat} {x : D} {v : V} (r : Rp K G x v) : Rep K T G0 H0 G H (σ.set i (some v)) (δ.set i (.d x)) := by
  refine ⟨R.st, R.src, R.tab, by rw [List.length_set, R.len]; exact (List.length_set ..).symm, fun j o h => ?_, fun j k a hjk h1 h2 e1 e2 => ?_⟩
  · have h : (δ.sl.set i (.d x))[j]? = some o := h
    by_cases c : i = j
    · subst c
      by_cases hi : i < δ.sl.length
      · rw [List.getElem?_set_self hi] at h
        cases h
        exact ⟨some v, List.getElem?_set_self (by rw [R.len]; exact hi), v, rfl, r⟩
      · rw [List.getElem?_eq_none (by rw [List.length_set]; omega)] at h
        cases h
    · rw [List.getElem?_set_ne c] at h ⊢
      exact R.sl j o h
  · have h1 : isOwn (δ.sl.set i (.d x))[j]? = true := h1
    have h2 : isOwn (δ.sl.set i (.d x))[k]? = true := h2
    have no : ∀ l, isOwn (δ.sl.set i (.d x))[l]? = true → i ≠ l ∧ isOwn δ.sl[l]? = true := fun l hl => by
      by_cases c : i = l
      · subst c
        by_cases hi : i < δ.sl.length
        · rw [List.getElem?_set_self hi] at hl
          cases hl
        · rw [List.getElem?_eq_none (by rw [List.length_set]; omega)] at hl
          cases hl
      · rw [List.getElem?_set_ne c] at hl
        exact ⟨c, hl⟩
    obtain ⟨c1, k1⟩ := no j h1
    obtain ⟨c2, k2⟩ := no k h2
    rw [List.getElem?_set_ne c1] at e1
    rw [List.getElem?_set_ne c2] at e2
    exact R.un j k a hjk k1 k2 e1 e2
/-- a slot takes a thing of the frame's own that no other slot has -/
theorem Rep.setO (R : Rep K T G0 H0 G H σ δ) {i : Nat} {o : Slot} {a : Addr} (r : SlOk K δ.s H0 G H o (some (.ref a))) (hn : ∀ j, i ≠ j → isOwn δ.sl[j]? = true → σ[j]? ≠ some (some (V.ref a))) :
    Rep K T G0 H0 G H (σ.set i (some (.ref a))) (δ.set i o) := by
  refine ⟨R.st, R.src, R.tab, by rw [List.length_set, R.len]; exact (List.length_set ..).symm, fun j u h => ?_, fun j k b hjk h1 h2 e1 e2 => ?_⟩
  · have h : (δ.sl.set i o)[j]? = some u := h
    by_cases c : i = j
    · subst c
      by_cases hi : i < δ.sl.length
      · rw [List.getElem?_set_self hi] at h
        cases h
        exact ⟨_, List.getElem?_set_self (by rw [R.len]; exact hi), r⟩
      · rw [List.getElem?_eq_none (by rw [List.length_set]; omega)] at h
        cases h
    · rw [List.getElem?_set_ne c] at h ⊢
      exact R.sl j u h
  · have h1 : isOwn (δ.sl.set i o)[j]? = true := h1
    have h2 : isOwn (δ.sl.set i o)[k]? = true := h2
    by_cases c1 : i = j
    · have c2 : i ≠ k := fun z => hjk (c1.symm.trans z)
      rw [List.getElem?_set_ne c2] at h2 e2
      subst c1
      have hi : i < σ.length := by
        rcases Nat.lt_or_ge i σ.length with q | q
        · exact q
        · rw [List.getElem?_eq_none (by rw [List.length_set]; omega)] at e1
          cases e1
      rw [List.getElem?_set_self hi] at e1
      have e3 : a = b := by
        have z := Option.some.inj (Option.some.inj e1)
        exact V.ref.inj z
      rw [← e3] at e2
      exact hn k c2 h2 e2
    · rw [List.getElem?_set_ne c1] at h1 e1
      by_cases c2 : i = k
      · subst c2
        have hi : i < σ.length := by
          rcases Nat.lt_or_ge i σ.length with q | q
          · exact q
          · rw [List.getElem?_eq_none (by rw [List.length_set]; omega)] at e2
            cases e2
        rw [List.getElem?_set_self hi] at e2
        have e3 : a = b := by
          have z := Option.some.inj (Option.some.inj e2)
          exact V.ref.inj z
        rw [← e3] at e1
        exact hn j c1 h1 e1
      · rw [List.getElem?_set_ne c2] at h2 e2
        exact R.un j k b hjk h1 h2 e1 e2
/-- a slot is forgotten -/
theorem Rep.setNo (R : Rep K T G0 H0 G H σ δ) {i : Nat} {v : Option V} : Rep K T G0 H0 G H (σ.set i v) (δ.set i .no) := by
  refine ⟨R.st, R.src, R.tab, by rw [List.length_set, R.len]; exact (List.length_set ..).symm, fun j o h => ?_, fun j k a hjk h1 h2 e1 e2 => ?_⟩
  · have h : (δ.sl.set i .no)[j]? = some o := h
    by_cases c : i = j
    · subst c
      by_cases hi : i < δ.sl.length
      · rw [List.getElem?_set_self hi] at h
        cases h
        exact ⟨v, List.getElem?_set_self (by rw [R.len]; exact hi), trivial⟩
      · rw [List.getElem?_eq_none (by rw [List.length_set]; omega)] at h
        cases h
    · rw [List.getElem?_set_ne c] at h ⊢
      exact R.sl j o h
  · have h1 : isOwn (δ.sl.set i .no)[j]? = true := h1
    have h2 : isOwn (δ.sl.set i .no)[k]? = true := h2
    have no : ∀ l, isOwn (δ.sl.set i .no)[l]? = true → i ≠ l ∧ isOwn δ.sl[l]? = true := fun l hl => by
      by_cases c : i = l
      · subst c
        by_cases hi : i < δ.sl.length
        · rw [List.getElem?_set_self hi] at hl
          cases hl
        · rw [List.getElem?_eq_none (by rw [List.length_set]; omega)] at hl
          cases hl
      · rw [List.getElem?_set_ne c] at hl
        exact ⟨c, hl⟩
    obtain ⟨c1, k1⟩ := no j h1
    obtain ⟨c2, k2⟩ := no k h2
    rw [List.getElem?_set_ne c1] at e1
    rw [List.getElem?_set_ne c2] at e2
    exact R.un j k a hjk k1 k2 e1 e2
/-- a slot's own thing is no other slot's, and not what stands still -/
theorem Rep.own_ne (R : Rep K T G0 H0 G H σ δ) {p : Addr} (hp : H p = none) (j : Nat) (h : isOwn δ.sl[j]? = true) : σ[j]? ≠ some (some (V.ref p)) := fun z => by
  cases e : δ.sl[j]? with
  | none =>
    rw [e] at h
    cases h
  | some o =>
    obtain ⟨v, h1, h2⟩ := R.sl j o e
    rw [h1] at z
    cases z
    cases o with
    | no =>
      rw [e] at h
      cases h
    | d x =>
      rw [e] at h
      cases h
    | sr b =>
      rw [e] at h
      cases h
    | ow xs =>
      obtain ⟨a, us, q, _, _, _, q2, _⟩ := h2
      cases q
      rw [hp] at q2
      cases q2
    | oK ks xs =>
      obtain ⟨a, us, q, _, _, _, q2, _⟩ := h2
      cases q
      rw [hp] at q2
      cases q2
    | oT ks xs =>
      obtain ⟨a, us, q, _, _, _, q2, _⟩ := h2
      cases q
      rw [hp] at q2
      cases q2
/-- what a frame may own -/
def OwnO : HO → Prop
  | .lst _ => True
  | .dK _ => True
  | .dT _ => True
  | _ => False
theorem OwnO.nt {o : HO} (h : OwnO o) : NT o := fun ps z => by
  rw [z] at h
  exact h
/-- the frame's own thing in slot i is written -/
theorem Rep.wr (R : Rep K T G0 H0 G H σ δ) {i : Nat} {o o' : Slot} {a : Addr} {u w : HO} (hi : δ.sl[i]? = some o) (ho : isOwn (some o) = true) (hv : σ[i]? = some (some (V.ref a))) (h0 : H0 a = none) (hs : δ.s ≠ some a) (hg : G a = none) (hw : H a = some w) (ow : OwnO w)
    (r : SlOk K δ.s H0 G (upd H a u) o' (some (V.ref a))) : Rep K T G0 H0 G (upd H a u) σ (δ.set i o') := by
  have hil : i < δ.sl.length := (List.getElem?_eq_some_iff.mp hi).1
  have hi' : isOwn δ.sl[i]? = true := by
    rw [hi]
    exact ho
  have keepV : Same G (vw δ.s (upd H a u)) := fun b x e => by
    have ne : b ≠ a := fun z => by
      rw [z, hg] at e
      cases e
    obtain ⟨e1, e2, e3⟩ := vw_of (R.gv b x e)
    exact vw_at (by rw [upd_ne ne]; exact e1) e2 e3
  have tab : LamX.Tabs T (upd H a u) := fun p hp => by
    obtain ⟨ps, q1, q2, q3⟩ := R.tab p hp
    have np : p.1 ≠ a := fun z => by
      rw [z, hw] at q1
      exact ow.nt ps (Option.some.inj q1)
    refine ⟨ps, by rw [upd_ne np]; exact q1, q2, fun pos cv hcv => ?_⟩
    obtain ⟨c, e1, e2⟩ := q3 pos cv hcv
    have nc : c ≠ a := fun z => by
      rw [z, hw] at e2
      have z2 := Option.some.inj e2
      rw [z2] at ow
      exact ow
    exact ⟨c, e1, by rw [upd_ne nc]; exact e2⟩
  have same : ∀ b, δ.s = some b → b ≠ a := fun b e c => hs (by rw [← c]; exact e)
  refine ⟨⟨⟨fun b x e => ?_, fun b hb => ?_, fun b e q => ?_, fun t => tab⟩, R.st.gg, keepV, R.st.nw⟩, fun b e => ?_, tab, by rw [R.len]; exact (List.length_set ..).symm, fun j x h => ?_, fun j k b hjk h1 h2 e1 e2 => ?_⟩
  · obtain ⟨e1, e2, e3⟩ := vw_of (R.st.gr.ex b x e)
    have ne : b ≠ a := fun z => by
      have q := (vw_of e).1
      rw [z, h0] at q
      cases q
    exact vw_at (by rw [upd_ne ne]; exact e1) e2 e3
  · by_cases c : b = a
    · rw [c, upd_same]
      simp
    · rw [upd_ne c]
      exact R.st.gr.al b hb
  · obtain ⟨x, y, z, r⟩ := R.st.gr.sr b e q
    exact ⟨x, y, by rw [upd_ne (same b e)]; exact z, r⟩
  · obtain ⟨x, y, z, r⟩ := R.src b e
    exact ⟨x, y, by rw [upd_ne (same b e)]; exact z, r⟩
  · have h : (δ.sl.set i o')[j]? = some x := h
    by_cases c : i = j
    · subst c
      rw [List.getElem?_set_self hil] at h
      cases h
      exact ⟨_, hv, r⟩
    · rw [List.getElem?_set_ne c] at h
      obtain ⟨v, h1, h2⟩ := R.sl j x h
      refine ⟨v, h1, ?_⟩
      have ne : ∀ b, isOwn (some x) = true → v = some (.ref b) → b ≠ a := fun b hx e z => R.un i j a c hi' (by rw [h]; exact hx) hv (by rw [h1, e, z])
      cases x with
      | no => trivial
      | d y => exact h2
      | sr b => exact h2
      | ow xs =>
        obtain ⟨b, us, e, q⟩ := h2
        exact ⟨b, us, e, by rw [upd_ne (ne b rfl e)]; exact q⟩
      | oK ks xs =>
        obtain ⟨b, us, e, q⟩ := h2
        exact ⟨b, us, e, by rw [upd_ne (ne b rfl e)]; exact q⟩
      | oT ks xs =>
        obtain ⟨b, us, e, q⟩ := h2
        exact ⟨b, us, e, by rw [upd_ne (ne b rfl e)]; exact q⟩
  · have own : ∀ l, isOwn (δ.sl.set i o')[l]? = true → isOwn δ.sl[l]? = true := fun l hl => by
      by_cases c : i = l
      · rw [← c]
        exact hi'
      · rw [List.getElem?_set_ne c] at hl
        exact hl
    exact R.un j k b hjk (own j h1) (own k h2) e1 e2
/-- the frame's own thing in slot i stands still from now on -/
theorem Rep.fz (R : Rep K T G0 H0 G H σ δ) {i : Nat} {o : Slot} {x : D} {a : Addr} {w : HO} (hi : δ.sl[i]? = some o) (ho : isOwn (some o) = true) (hv : σ[i]? = some (some (V.ref a))) (h0 : H0 a = none) (hs : δ.s ≠ some a) (hg : G a = none) (hw : H a = some w) (ow : OwnO w)
    (r : Rp K (upd G a w) x (.ref a)) : Rep K T G0 H0 (upd G a w) H σ (δ.set i (.d x)) := by
  have hil : i < δ.sl.length := (List.getElem?_eq_some_iff.mp hi).1
  have hi' : isOwn δ.sl[i]? = true := by
    rw [hi]
    exact ho
  have gg : Same G (upd G a w) := Wn.Same.new hg
  refine ⟨⟨R.st.gr, fun b y e => gg b y (R.st.gg b y e), fun b y e => ?_, fun b hb => ?_⟩, R.src, R.tab, by rw [R.len]; exact (List.length_set ..).symm, fun j y h => ?_, fun j k b hjk h1 h2 e1 e2 => ?_⟩
  · by_cases c : b = a
    · rw [c, upd_same] at e
      cases e
      rw [c]
      exact vw_at hw hs ow.nt
    · rw [upd_ne c] at e
      exact R.gv b y e
  · by_cases c : b = a
    · rw [c]
      exact .inr h0
    · rw [upd_ne c] at hb
      exact R.st.nw b hb
  · have h : (δ.sl.set i (.d x))[j]? = some y := h
    by_cases c : i = j
    · subst c
      rw [List.getElem?_set_self hil] at h
      cases h
      exact ⟨_, hv, _, rfl, r⟩
    · rw [List.getElem?_set_ne c] at h
      obtain ⟨v, h1, h2⟩ := R.sl j y h
      refine ⟨v, h1, ?_⟩
      have ne : ∀ b, isOwn (some y) = true → v = some (.ref b) → b ≠ a := fun b hx e z => R.un i j a c hi' (by rw [h]; exact hx) hv (by rw [h1, e, z])
      cases y with
      | no => trivial
      | d z =>
        obtain ⟨u, e, q⟩ := h2
        exact ⟨u, e, q.mono gg⟩
      | sr b => exact h2
      | ow xs =>
        obtain ⟨b, us, e, q1, q2, q3, q4, q5⟩ := h2
        exact ⟨b, us, e, q1, q2, by rw [upd_ne (ne b rfl e)]; exact q3, q4, q5.mono gg⟩
      | oK ks xs =>
        obtain ⟨b, us, e, q1, q2, q3, q4, q6, q5⟩ := h2
        exact ⟨b, us, e, q1, q2, by rw [upd_ne (ne b rfl e)]; exact q3, q4, q6, q5.mono gg⟩
      | oT ks xs =>
        obtain ⟨b, us, e, q1, q2, q3, q4, q6, q5⟩ := h2
        exact ⟨b, us, e, q1, q2, by rw [upd_ne (ne b rfl e)]; exact q3, q4, q6, q5.mono gg⟩
  · have own : ∀ l, isOwn (δ.sl.set i (.d x))[l]? = true → isOwn δ.sl[l]? = true := fun l hl => by
      by_cases c : i = l
      · rw [← c]
        exact hi'
      · rw [List.getElem?_set_ne c] at hl
        exact hl
    exact R.un j k b hjk (own j h1) (own k h2) e1 e2
end
end Wn

set_option Elab.async false
set_option linter.all false
set_option maxRecDepth 100000
set_option maxHeartbeats 4000000
namespace Wn
open PySem L2
abbrev TD := DE → (D → Prop) → (Addr → Prop) → Prop
abbrev TDL := DE → (List D → Prop) → (Addr → Prop) → Prop
abbrev TDB := DE → (Bool → Prop) → (Addr → Prop) → Prop
structure Lv (K : PySem.W.Frag) (T : Tbl) (E : XK) (G0 H0 G H : Hp) (σ : L2.St) (δ : DE) (EP : Addr → Prop) : Prop where
  rep : Rep K T G0 H0 G H σ δ
  ex : ∀ c, EP c → ∀ H', Gr T δ.s H H' → E (.ref c) none H'
theorem Lv.stp {K : PySem.W.Frag} {T : Tbl} {E : XK} {G0 H0 G H G1 H1 : Hp} {σ : L2.St} {δ : DE} {EP : Addr → Prop} (L : Lv K T E G0 H0 G H σ δ EP) (x : Stp T δ.s G G1 H H1) : Lv K T E G0 H0 G1 H1 σ δ EP :=
  ⟨L.rep.stp x, fun c h H' g => L.ex c h H' (x.gr.trans g)⟩
theorem Lv.gr {K : PySem.W.Frag} {T : Tbl} {E : XK} {G0 H0 G H H1 : Hp} {σ : L2.St} {δ : DE} {EP : Addr → Prop} (L : Lv K T E G0 H0 G H σ δ EP) (x : Gr T δ.s H H1) : Lv K T E G0 H0 G H1 σ δ EP := L.stp (.of_gr L.rep.gv x)
/-- the value stands still -/
def lF (K : PySem.W.Frag) (T : Tbl) (E : XK) (t : TD) : TE := fun σ H Q => ∃ δ G0 H0 G P EP, Lv K T E G0 H0 G H σ δ EP ∧ t δ P EP ∧ ∀ d, P d → ∀ v H' G', Stp T δ.s G G' H H' → Rp K G' d v → Q v H'
/-- the value is read now -/
def lR (K : PySem.W.Frag) (T : Tbl) (E : XK) (t : TD) : TE := fun σ H Q => ∃ δ G0 H0 G P EP, Lv K T E G0 H0 G H σ δ EP ∧ t δ P EP ∧ ∀ d, P d → ∀ v H', Gr T δ.s H H' → Rp K (vw δ.s H') d v → Q v H'
/-- the value is a new list -/
def lN (K : PySem.W.Frag) (T : Tbl) (E : XK) (t : TDL) : TE := fun σ H Q => ∃ δ G0 H0 G P EP, Lv K T E G0 H0 G H σ δ EP ∧ t δ P EP ∧ ∀ ds, P ds → ∀ a us H' G', Stp T δ.s G G' H H' → H a = none → G' a = none → H' a = some (.lst us) → RpA K G' ds us → Q (.ref a) H'
def lA (K : PySem.W.Frag) (T : Tbl) (E : XK) (t : TDL) : TA := fun σ H Q => ∃ δ G0 H0 G P EP, Lv K T E G0 H0 G H σ δ EP ∧ t δ P EP ∧ ∀ ds, P ds → ∀ vs H' G', Stp T δ.s G G' H H' → RpA K G' ds vs → Q vs H'
def lAR (K : PySem.W.Frag) (T : Tbl) (E : XK) (t : TDL) : TA := fun σ H Q => ∃ δ G0 H0 G P EP, Lv K T E G0 H0 G H σ δ EP ∧ t δ P EP ∧ ∀ ds, P ds → ∀ vs H', Gr T δ.s H H' → RpA K (vw δ.s H') ds vs → Q vs H'
def lB (K : PySem.W.Frag) (T : Tbl) (E : XK) (t : TDB) : TT := fun σ H Q => ∃ δ G0 H0 G P EP, Lv K T E G0 H0 G H σ δ EP ∧ t δ P EP ∧ ∀ b, P b → ∀ H', Gr T δ.s H H' → Q b H'
section
variable {X : Cx} {e : Expr} {K : PySem.W.Frag} {T : Tbl} {E : XK}
theorem pe_imp {t t' : TE} (h : PE X e t) (i : ∀ σ H Q, t' σ H Q → t σ H Q) : PE X e t' := ⟨fun pins s σ H Q I q => h.run pins s σ H Q I (i σ H Q q)⟩
theorem pt_imp {t t' : TT} (h : PT X e t) (i : ∀ σ H Q, t' σ H Q → t σ H Q) : PT X e t' := ⟨fun pins s σ H Q I q => h.run pins s σ H Q I (i σ H Q q)⟩
theorem pw_imp {t t' : TT} (h : PW X e t) (i : ∀ σ H Q, t' σ H Q → t σ H Q) : PW X e t' := ⟨fun whole pins s σ H Q I q => h.run whole pins s σ H Q I (i σ H Q q)⟩
theorem pa_imp {es : List Expr} {t t' : TA} (h : PA X es t) (i : ∀ σ H Q, t' σ H Q → t σ H Q) : PA X es t' := ⟨fun pos pins s σ H Q I q => h.run pos pins s σ H Q I (i σ H Q q)⟩
/-- what stands still may be read -/
theorem pd_R {t : TD} (h : PE X e (lF K T E t)) : PE X e (lR K T E t) :=
  pe_imp h fun σ H Q ⟨δ, G0, H0, G, P, EP, L, ht, k⟩ => ⟨δ, G0, H0, G, P, EP, L, ht, fun d hd v H' G' x r => k d hd v H' x.gr (r.mono x.gv)⟩
def tNF (t : TDL) : TD := fun δ P EP => t δ (fun ds => P (.lst ds)) EP
/-- a new list that stands still from now on -/
theorem pd_NF {t : TDL} (h : PE X e (lN K T E t)) : PE X e (lF K T E (tNF t)) :=
  pe_imp h fun σ H Q ⟨δ, G0, H0, G, P, EP, L, ht, k⟩ => ⟨δ, G0, H0, G, _, EP, L, ht, fun ds hd a us H' G' x h1 h2 h3 r => by
    have sa : δ.s ≠ some a := fun z => by
      obtain ⟨p, q, e, _⟩ := L.rep.src a z
      rw [h1] at e
      cases e
    refine k _ hd (.ref a) H' (upd G' a (.lst us)) ⟨x.gr, (x.gg).trans (Wn.Same.new h2), fun b o e => ?_, fun b hb => ?_⟩ ⟨a, us, rfl, upd_same, r.mono (Wn.Same.new h2)⟩
    · by_cases c : b = a
      · rw [c, upd_same] at e
        cases e
        rw [c]
        exact vw_at h3 sa fun ps z => by cases z
      · rw [upd_ne c] at e
        exact x.gv b o e
    · by_cases c : b = a
      · rw [c]
        exact .inr h1
      · rw [upd_ne c] at hb
        exact x.nw b hb⟩
theorem pd_NR {t : TDL} (h : PE X e (lN K T E t)) : PE X e (lR K T E (tNF t)) := pd_R (pd_NF h)
/-- data that are no objects -/
def isSc : D → Bool
  | .non => true
  | .bl _ => true
  | .int _ => true
  | .str _ => true
  | .ref _ => true
  | _ => false
theorem Rp.sc {G : Hp} {d : D} {v : V} (h : isSc d = true) (r : Rp K G d v) (G' : Hp) : Rp K G' d v := by
  cases d <;> first
    | exact r
    | cases h
def tSc (t : TD) : TD := fun δ P EP => t δ (fun d => isSc d = true ∧ P d) EP
/-- a value that is no object may be read any time -/
theorem pd_RF {t : TD} (h : PE X e (lR K T E t)) : PE X e (lF K T E (tSc t)) :=
  pe_imp h fun σ H Q ⟨δ, G0, H0, G, P, EP, L, ht, k⟩ => ⟨δ, G0, H0, G, _, EP, L, ht, fun d hd v H' g r => k d hd.2 v H' G (.of_gr L.rep.gv g) (r.sc hd.1 G)⟩
end
/-! ### names and constants -/
def tK (d : D) : TD := fun _ P _ => P d
def tN (i : Nat) : TD := fun δ P _ => match δ.sl[i]? with
  | some (.d x) => P x
  | some (.sr a) => P (.ref a)
  | _ => False
def rdS : Slot → Option D
  | .no => none
  | .d x => some x
  | .sr a => some (.ref a)
  | .ow xs => some (.lst xs)
  | .oK ks vs => some (.dK ks vs)
  | .oT ks vs => some (.dT ks vs)
def tR (i : Nat) : TD := fun δ P _ => match δ.sl[i]? with
  | some o => (match rdS o with
    | some x => P x
    | none => False)
  | none => False
section
variable {X : Cx} {K : PySem.W.Frag} {T : Tbl} {E : XK} {pos : Pos}
theorem pd_k {e : Expr} {d : D} {v : V} (h : PE X e (tC v)) (r : ∀ G, Rp K G d v) : PE X e (lF K T E (tK d)) :=
  pe_imp h fun σ H Q ⟨δ, G0, H0, G, P, EP, L, ht, k⟩ => k _ ht v H G (.refl L.rep.gv) (r G)
theorem pd_int {i j} : PE X (.Constant (.int i) j pos) (lF K T E (tK (.int i))) := pd_k pe_int fun _ => rfl
theorem pd_bl {b j} : PE X (.Constant (.bool b) j pos) (lF K T E (tK (.bl b))) := pd_k pe_bl fun _ => rfl
theorem pd_non {j} : PE X (.Constant .none j pos) (lF K T E (tK .non)) := pd_k pe_non fun _ => rfl
theorem pd_str {x j} : PE X (.Constant (.str x) j pos) (lF K T E (tK (.str x))) := pd_k pe_str fun _ => rfl
/-- a name of the module that holds an int -/
theorem pd_gint {x : Str} {i : Int} (hm : ∃ t, X.mg x = some (.int i t)) (hg : Gl X x) (hd : (x == ("__debug__" : Str)) = false := by decide) : PE X (.Name x pos) (lF K T E (tK (.int i))) := by
  obtain ⟨t, e⟩ := hm
  exact pd_k (pe_glob (v := .int i) hg e ⟨t, rfl⟩ hd) fun _ => rfl
theorem pd_gref {x : Str} {a : Addr} (hm : X.mg x = some (.ref a)) (hg : Gl X x) (hd : (x == ("__debug__" : Str)) = false := by decide) : PE X (.Name x pos) (lF K T E (tK (.ref a))) := pd_k (pe_glob (v := .ref a) hg hm rfl hd) fun _ => rfl
theorem rep_d {G0 H0 G H : Hp} {σ : L2.St} {δ : DE} {i : Nat} {x : D} (R : Rep K T G0 H0 G H σ δ) (e : δ.sl[i]? = some (.d x)) : ∃ v, σ[i]? = some (some v) ∧ Rp K G x v := by
  obtain ⟨v, h1, u, h2, r⟩ := R.sl i _ e
  exact ⟨u, by rw [h1, h2], r⟩
theorem rep_r {G0 H0 G H : Hp} {σ : L2.St} {δ : DE} {i : Nat} {o : Slot} {x : D} (R : Rep K T G0 H0 G H σ δ) (e : δ.sl[i]? = some o) (hx : rdS o = some x) : ∃ v, σ[i]? = some (some v) ∧ Rp K (vw δ.s H) x v := by
  obtain ⟨v, h1, h2⟩ := R.sl i _ e
  cases o with
  | no => cases hx
  | d y =>
    cases hx
    obtain ⟨u, e2, r⟩ := h2
    exact ⟨u, by rw [h1, e2], r.mono R.gv⟩
  | sr a =>
    cases hx
    exact ⟨.ref a, by rw [h1, h2.1], rfl⟩
  | ow xs =>
    cases hx
    obtain ⟨a, us, e2, q1, q2, q3, q4, q5⟩ := h2
    exact ⟨.ref a, by rw [h1, e2], a, us, rfl, vw_at q4 q2 (fun ps z => by cases z), q5.mono R.gv⟩
  | oK ks xs =>
    cases hx
    obtain ⟨a, us, e2, q1, q2, q3, q4, q6, q5⟩ := h2
    exact ⟨.ref a, by rw [h1, e2], a, us, rfl, vw_at q4 q2 (fun ps z => by cases z), q6, q5.mono R.gv⟩
  | oT ks xs =>
    cases hx
    obtain ⟨a, us, e2, q1, q2, q3, q4, q6, q5⟩ := h2
    exact ⟨.ref a, by rw [h1, e2], a, us, rfl, vw_at q4 q2 (fun ps z => by cases z), q6, q5.mono R.gv⟩
theorem pd_n (i : Nat) {x : Str} (hN : X.N[i]? = some x := by rfl) (hv : Vis X.env.scope x := by first | exact Or.inl rfl | exact Or.inr (Or.inl rfl) | exact Or.inr (Or.inr rfl)) (hd : (x == ("__debug__" : Str)) = false := by decide)
    (hcd : (x == ("__classdict__" : Str)) = false := by decide) : PE X (.Name x pos) (lF K T E (tN i)) :=
  pe_imp (pe_var hN hv hd hcd) fun σ H Q ⟨δ, G0, H0, G, P, EP, L, ht, k⟩ => by
    unfold tN at ht
    cases e : δ.sl[i]? with
    | none =>
      rw [e] at ht
      exact ht.elim
    | some o =>
      rw [e] at ht
      cases o with
      | d y =>
        obtain ⟨v, h1, r⟩ := rep_d L.rep e
        exact ⟨v, h1, k y ht v H G (.refl L.rep.gv) r⟩
      | sr a =>
        obtain ⟨v, h1, h2, _⟩ := L.rep.sl i _ e
        exact ⟨.ref a, by rw [h1, h2], k _ ht _ H G (.refl L.rep.gv) rfl⟩
      | _ => exact ht.elim
theorem pd_r (i : Nat) {x : Str} (hN : X.N[i]? = some x := by rfl) (hv : Vis X.env.scope x := by first | exact Or.inl rfl | exact Or.inr (Or.inl rfl) | exact Or.inr (Or.inr rfl)) (hd : (x == ("__debug__" : Str)) = false := by decide)
    (hcd : (x == ("__classdict__" : Str)) = false := by decide) : PE X (.Name x pos) (lR K T E (tR i)) :=
  pe_imp (pe_var hN hv hd hcd) fun σ H Q ⟨δ, G0, H0, G, P, EP, L, ht, k⟩ => by
    unfold tR at ht
    cases e : δ.sl[i]? with
    | none =>
      rw [e] at ht
      exact ht.elim
    | some o =>
      rw [e] at ht
      cases hx : rdS o with
      | none =>
        have ht : (match rdS o with | some x => P x | none => False) := ht
        rw [hx] at ht
        exact ht.elim
      | some y =>
        have ht : (match rdS o with | some x => P x | none => False) := ht
        rw [hx] at ht
        obtain ⟨v, h1, r⟩ := rep_r L.rep e hx
        exact ⟨v, h1, k y ht v H .refl r⟩
end
/-! ### operators on values -/
/-- r on what is read as x, y gives what f says, no object -/
def Sop (K : PySem.W.Frag) (r : R2) (f : D → D → (D → Prop) → Prop) : Prop :=
  ∀ (s : Option Addr) (H : Hp) (dx dy : D) (x y : V) (P : D → Prop) (Q : VK), Rp K (vw s H) dx x → Rp K (vw s H) dy y → f dx dy P → (∀ d v, P d → (∀ G, Rp K G d v) → Q v H) → r x y H Q
def t2 (f : D → D → (D → Prop) → Prop) (ta tb : TD) : TD := fun δ P EP => ta δ (fun x => tb δ (fun y => f x y P) EP) EP
section
variable {X : Cx} {K : PySem.W.Frag} {T : Tbl} {E : XK} {a b c : Expr} {ta tb tc : TD} {pos : Pos} {r r' : R2} {f f' : D → D → (D → Prop) → Prop}
theorem two_run {σ : L2.St} {H : Hp} {Q : VK} (hs : Sop K r f) (h : lF K T E (t2 f ta tb) σ H Q) : tOp r (lR K T E ta) (lR K T E tb) σ H Q := by
  obtain ⟨δ, G0, H0, G, P, EP, L, ht, k⟩ := h
  refine ⟨δ, G0, H0, G, _, EP, L, ht, fun dx hx x H1 g1 r1 => ⟨δ, G0, H0, G, _, EP, L.gr g1, hx, fun dy hy y H2 g2 r2 => ?_⟩⟩
  exact hs δ.s H2 dx dy x y P Q (r1.mono g2.ex) r2 hy fun d v hd rr => k d hd v H2 G (.of_gr L.rep.gv (g1.trans g2)) (rr G)
theorem pd_op {op : Operator} (ho : OpR X (binaryOp op) r) (hs : Sop K r f) (ha : PE X a (lR K T E ta)) (hb : PE X b (lR K T E tb)) : PE X (.BinOp a op b pos) (lF K T E (t2 f ta tb)) := pe_imp (pe_op ho ha hb) fun _ _ _ h => two_run hs h
theorem pd_cmp {op : CmpOp} (ho : OpR X (compareOp op) r) (hs : Sop K r f) (ha : PE X a (lR K T E ta)) (hb : PE X b (lR K T E tb)) (hm : behindInMarks op b = false) : PE X (.Compare a [op] [b] pos) (lF K T E (t2 f ta tb)) := pe_imp (pe_cmpR ho ha hb hm) fun _ _ _ h => two_run hs h
def tCh (f f' : D → D → (D → Prop) → Prop) (ta tb tc : TD) : TD := fun δ P EP => ta δ (fun x => tb δ (fun y => f x y (fun z => match z with
  | .bl true => tc δ (fun u => f' y u P) EP
  | .bl false => P (.bl false)
  | _ => False)) EP) EP
theorem chain_run {σ : L2.St} {H : Hp} {Q : VK} (hs : Sop K r f) (hs' : Sop K r' f') (h : lF K T E (tCh f f' ta tb tc) σ H Q) : tChain r r' (lR K T E ta) (lR K T E tb) (lR K T E tc) σ H Q := by
  obtain ⟨δ, G0, H0, G, P, EP, L, ht, k⟩ := h
  refine ⟨δ, G0, H0, G, _, EP, L, ht, fun dx hx x H1 g1 r1 => ⟨δ, G0, H0, G, _, EP, L.gr g1, hx, fun dy hy y H2 g2 r2 => ?_⟩⟩
  refine hs δ.s H2 dx dy x y _ _ (r1.mono g2.ex) r2 hy fun d v hd rr => ?_
  cases d with
  | bl q =>
    have e : v = .bl q := rr G
    refine ⟨q, e, ?_⟩
    cases q with
    | true =>
      refine iteT ⟨δ, G0, H0, G, _, EP, (L.gr g1).gr g2, hd, fun du hu u H3 g3 r3 => ?_⟩
      exact hs' δ.s H3 dy du y u P Q (r2.mono g3.ex) r3 hu fun d' v' hd' rr' => k d' hd' v' H3 G (.of_gr L.rep.gv ((g1.trans g2).trans g3)) (rr' G)
    | false => exact iteF (k _ hd _ H2 G (.of_gr L.rep.gv (g1.trans g2)) rfl)
  | _ => exact hd.elim
theorem pd_chain {op op' : CmpOp} (ho : OpR X (compareOp op) r) (ho' : OpR X (compareOp op') r') (hs : Sop K r f) (hs' : Sop K r' f') (ha : PE X a (lR K T E ta)) (hb : PE X b (lR K T E tb)) (hc : PE X c (lR K T E tc))
    (hm : lastMarks [op, op'] [b, c] = false := by with_unfolding_all rfl) : PE X (.Compare a [op, op'] [b, c] pos) (lF K T E (tCh f f' ta tb tc)) :=
  pe_imp (pe_chain ho ho' ha hb hc hm) fun σ H Q h => chain_run hs hs' h
end
/-- ints under C -/
def fI (C : Int → Int → Prop) (g : Int → Int → D) : D → D → (D → Prop) → Prop := fun x y P => match x, y with
  | .int i, .int j => C i j ∧ P (g i j)
  | _, _ => False
def fI0 (g : Int → Int → D) : D → D → (D → Prop) → Prop := fun x y P => match x, y with
  | .int i, .int j => P (g i j)
  | _, _ => False
theorem sopI {K : PySem.W.Frag} {C : Int → Int → Prop} {g : Int → Int → V} {g' : Int → Int → D} (hg : ∀ i j G, Rp K G (g' i j) (g i j)) : Sop K (rI C g) (fI C g') := by
  intro s H dx dy x y P Q rx ry h k
  unfold fI at h
  cases dx with
  | int i =>
    cases dy with
    | int j => exact ⟨i, j, rx, ry, h.1, k _ _ h.2 (hg i j)⟩
    | _ => exact h.elim
  | _ => exact h.elim
theorem sopI0 {K : PySem.W.Frag} {g : Int → Int → V} {g' : Int → Int → D} (hg : ∀ i j G, Rp K G (g' i j) (g i j)) : Sop K (rI0 g) (fI0 g') := by
  intro s H dx dy x y P Q rx ry h k
  unfold fI0 at h
  cases dx with
  | int i =>
    cases dy with
    | int j => exact ⟨i, j, rx, ry, k _ _ h (hg i j)⟩
    | _ => exact h.elim
  | _ => exact h.elim
abbrev dAdd := fI0 fun i j => .int (i + j)
abbrev dSub := fI0 fun i j => .int (i - j)
abbrev dMul := fI CMul fun i j => .int (i * j)
abbrev dMulW := fI CMulW fun i j => .int (i * j)
abbrev dFdiv := fI CDiv fun i j => .int (i / j)
abbrev dFdivW := fI CDivW fun i j => .int (i / j)
abbrev dMod := fI (fun _ j => 0 < j) fun i j => .int (i % j)
abbrev dPow := fI CPow fun i j => .int (i ^ j.toNat)
abbrev dLt := fI0 fun i j => .bl (decide (i < j))
abbrev dLe := fI0 fun i j => .bl (decide (i ≤ j))
abbrev dGt := fI0 fun i j => .bl (decide (j < i))
abbrev dGe := fI0 fun i j => .bl (decide (j ≤ i))
section
variable {X : Cx} {K : PySem.W.Frag} {T : Tbl} {E : XK} {a b c : Expr} {ta tb tc : TD} {pos : Pos}
theorem pd_add (ha : PE X a (lR K T E ta)) (hb : PE X b (lR K T E tb)) : PE X (.BinOp a .Add b pos) (lF K T E (t2 dAdd ta tb)) := pd_op op_add (sopI0 fun _ _ _ => rfl) ha hb
theorem pd_sub (ha : PE X a (lR K T E ta)) (hb : PE X b (lR K T E tb)) : PE X (.BinOp a .Sub b pos) (lF K T E (t2 dSub ta tb)) := pd_op op_sub (sopI0 fun _ _ _ => rfl) ha hb
theorem pd_mul (ha : PE X a (lR K T E ta)) (hb : PE X b (lR K T E tb)) : PE X (.BinOp a .Mult b pos) (lF K T E (t2 dMul ta tb)) := pd_op op_mul (sopI fun _ _ _ => rfl) ha hb
theorem pd_mulW (ha : PE X a (lR K T E ta)) (hb : PE X b (lR K T E tb)) : PE X (.BinOp a .Mult b pos) (lF K T E (t2 dMulW ta tb)) := pd_op op_mulW (sopI fun _ _ _ => rfl) ha hb
theorem pd_fdiv (ha : PE X a (lR K T E ta)) (hb : PE X b (lR K T E tb)) : PE X (.BinOp a .FloorDiv b pos) (lF K T E (t2 dFdiv ta tb)) := pd_op op_fdiv (sopI fun _ _ _ => rfl) ha hb
theorem pd_fdivW (ha : PE X a (lR K T E ta)) (hb : PE X b (lR K T E tb)) : PE X (.BinOp a .FloorDiv b pos) (lF K T E (t2 dFdivW ta tb)) := pd_op op_fdivW (sopI fun _ _ _ => rfl) ha hb
theorem pd_mod (ha : PE X a (lR K T E ta)) (hb : PE X b (lR K T E tb)) : PE X (.BinOp a .Mod b pos) (lF K T E (t2 dMod ta tb)) := pd_op op_mod (sopI fun _ _ _ => rfl) ha hb
theorem pd_pow (ha : PE X a (lR K T E ta)) (hb : PE X b (lR K T E tb)) : PE X (.BinOp a .Pow b pos) (lF K T E (t2 dPow ta tb)) := pd_op op_pow (sopI fun _ _ _ => rfl) ha hb
theorem pd_lt (ha : PE X a (lR K T E ta)) (hb : PE X b (lR K T E tb)) : PE X (.Compare a [.Lt] [b] pos) (lF K T E (t2 dLt ta tb)) := pd_cmp op_lt (sopI0 fun _ _ _ => rfl) ha hb (nomark _)
theorem pd_le (ha : PE X a (lR K T E ta)) (hb : PE X b (lR K T E tb)) : PE X (.Compare a [.LtE] [b] pos) (lF K T E (t2 dLe ta tb)) := pd_cmp op_le (sopI0 fun _ _ _ => rfl) ha hb (nomark _)
theorem pd_gt (ha : PE X a (lR K T E ta)) (hb : PE X b (lR K T E tb)) : PE X (.Compare a [.Gt] [b] pos) (lF K T E (t2 dGt ta tb)) := pd_cmp op_gt (sopI0 fun _ _ _ => rfl) ha hb (nomark _)
theorem pd_ge (ha : PE X a (lR K T E ta)) (hb : PE X b (lR K T E tb)) : PE X (.Compare a [.GtE] [b] pos) (lF K T E (t2 dGe ta tb)) := pd_cmp op_ge (sopI0 fun _ _ _ => rfl) ha hb (nomark _)
theorem pd_lele (ha : PE X a (lR K T E ta)) (hb : PE X b (lR K T E tb)) (hc : PE X c (lR K T E tc)) (hm : lastMarks [CmpOp.LtE, CmpOp.LtE] [b, c] = false := by with_unfolding_all rfl) : PE X (.Compare a [.LtE, .LtE] [b, c] pos) (lF K T E (tCh dLe dLe ta tb tc)) :=
  pd_chain op_le op_le (sopI0 fun _ _ _ => rfl) (sopI0 fun _ _ _ => rfl) ha hb hc hm
theorem pd_ltlt (ha : PE X a (lR K T E ta)) (hb : PE X b (lR K T E tb)) (hc : PE X c (lR K T E tc)) (hm : lastMarks [CmpOp.Lt, CmpOp.Lt] [b, c] = false := by with_unfolding_all rfl) : PE X (.Compare a [.Lt, .Lt] [b, c] pos) (lF K T E (tCh dLt dLt ta tb tc)) :=
  pd_chain op_lt op_lt (sopI0 fun _ _ _ => rfl) (sopI0 fun _ _ _ => rfl) ha hb hc hm
theorem pd_ltle (ha : PE X a (lR K T E ta)) (hb : PE X b (lR K T E tb)) (hc : PE X c (lR K T E tc)) (hm : lastMarks [CmpOp.Lt, CmpOp.LtE] [b, c] = false := by with_unfolding_all rfl) : PE X (.Compare a [.Lt, .LtE] [b, c] pos) (lF K T E (tCh dLt dLe ta tb tc)) :=
  pd_chain op_lt op_le (sopI0 fun _ _ _ => rfl) (sopI0 fun _ _ _ => rfl) ha hb hc hm
end
/-! ### equality of data -/
mutual
def D.py : D → Option PyData
  | .non => some .none
  | .bl b => some (.bool b)
  | .int i => some (.int i)
  | .str x => some (.str x)
  | .tup ds => (D.pyA ds).map PyData.tuple
  | .lst ds => (D.pyA ds).map PyData.list
  | _ => none
def D.pyA : List D → Option (List PyData)
  | [] => some []
  | d :: ds => match D.py d, D.pyA ds with
    | some x, some r => some (x :: r)
    | _, _ => none
end
mutual
theorem Rp.dp {K : PySem.W.Frag} {G : Hp} : ∀ (d : D) (v : V) (p : PyData), Rp K G d v → d.py = some p → Dp K G v p
  | .non, v, p, h, e => by
    rw [show v = .non from h]
    cases (show some PyData.none = some p from e)
    exact .non
  | .bl b, v, p, h, e => by
    rw [show v = .bl b from h]
    cases (show some (PyData.bool b) = some p from e)
    exact .bl b
  | .int i, v, p, h, e => by
    rw [show v = .int i from h]
    cases (show some (PyData.int i) = some p from e)
    exact .int i
  | .str x, v, p, h, e => by
    rw [show v = .str x from h]
    cases (show some (PyData.str x) = some p from e)
    exact .str x
  | .tup ds, v, p, ⟨a, xs, e1, h1, h2⟩, e => by
    have e : (D.pyA ds).map PyData.tuple = some p := by
      unfold D.py at e
      exact e
    cases q : D.pyA ds with
    | none =>
      rw [q] at e
      cases e
    | some ps =>
      rw [q] at e
      cases e
      rw [e1]
      exact .tup (.of h1) (RpA.dp ds xs ps h2 q)
  | .lst ds, v, p, ⟨a, xs, e1, h1, h2⟩, e => by
    have e : (D.pyA ds).map PyData.list = some p := by
      unfold D.py at e
      exact e
    cases q : D.pyA ds with
    | none =>
      rw [q] at e
      cases e
    | some ps =>
      rw [q] at e
      cases e
      rw [e1]
      exact .lst (.of h1) (RpA.dp ds xs ps h2 q)
  | .ref _, _, _, _, e => by
    unfold D.py at e
    cases e
  | .kl _, _, _, _, e => by
    unfold D.py at e
    cases e
  | .kt _, _, _, _, e => by
    unfold D.py at e
    cases e
  | .dK _ _, _, _, _, e => by
    unfold D.py at e
    cases e
  | .dT _ _, _, _, _, e => by
    unfold D.py at e
    cases e
theorem RpA.dp {K : PySem.W.Frag} {G : Hp} : ∀ (ds : List D) (vs : List V) (ps : List PyData), RpA K G ds vs → D.pyA ds = some ps → DpAll K G vs ps
  | [], vs, ps, h, e => by
    rw [show vs = [] from h]
    have e : some [] = some ps := by
      unfold D.pyA at e
      exact e
    cases e
    exact .nil
  | d :: ds, vs, ps, ⟨x, r, e1, h1, h2⟩, e => by
    unfold D.pyA at e
    cases q1 : D.py d with
    | none =>
      rw [q1] at e
      cases e
    | some p1 =>
      rw [q1] at e
      cases q2 : D.pyA ds with
      | none =>
        rw [q2] at e
        cases e
      | some p2 =>
        rw [q2] at e
        cases e
        rw [e1]
        exact .cons (Rp.dp d x p1 h1 q1) (RpA.dp ds r p2 h2 q2)
end
theorem sqT_vw {K : PySem.W.Frag} {s : Option Addr} {H : Hp} {a : Addr} {xs : List V} (h : SqT K (vw s H) a xs) : SqT K H a xs := same_seqT vw_sub h
theorem sqL_vw {K : PySem.W.Frag} {s : Option Addr} {H : Hp} {a : Addr} {xs : List V} (h : SqL K (vw s H) a xs) : SqL K H a xs := vw_sub.seq h
theorem Rp.at {K : PySem.W.Frag} {s : Option Addr} {H : Hp} {d : D} {v : V} (h : Rp K (vw s H) d v) : Rp K H d v := h.mono vw_sub
/-- == of data; both small enough in depth -/
def dEq (neg : Bool) : D → D → (D → Prop) → Prop := fun x y P => match x.py, y.py with
  | some p, some q => (SeqAt.shaped p = true ∧ SeqAt.shaped q = true) ∧ P (.bl (if neg then !PyData.eqv p q else PyData.eqv p q))
  | _, _ => False
section
variable {X : Cx} {K : PySem.W.Frag} {T : Tbl} {E : XK} {a b c : Expr} {ta tb tc : TD} {pos : Pos}
theorem sop_eq : Sop K (rEqD K) (dEq false) := by
  intro s H dx dy x y P Q rx ry h k
  unfold dEq at h
  cases ex : dx.py with
  | none =>
    rw [ex] at h
    exact h.elim
  | some p =>
    cases ey : dy.py with
    | none =>
      rw [ex, ey] at h
      exact h.elim
    | some q =>
      rw [ex, ey] at h
      exact ⟨p, q, rx.at.dp _ _ _ ex, ry.at.dp _ _ _ ey, h.1.1, h.1.2, k _ _ h.2 fun _ => rfl⟩
theorem sop_ne : Sop K (rNeD K) (dEq true) := by
  intro s H dx dy x y P Q rx ry h k
  unfold dEq at h
  cases ex : dx.py with
  | none =>
    rw [ex] at h
    exact h.elim
  | some p =>
    cases ey : dy.py with
    | none =>
      rw [ex, ey] at h
      exact h.elim
    | some q =>
      rw [ex, ey] at h
      exact ⟨p, q, rx.at.dp _ _ _ ex, ry.at.dp _ _ _ ey, h.1.1, h.1.2, k _ _ h.2 fun _ => rfl⟩
theorem pd_eq (hu : X.A.units + 64 < cLine) (ha : PE X a (lR X.K T E ta)) (hb : PE X b (lR X.K T E tb)) : PE X (.Compare a [.Eq] [b] pos) (lF X.K T E (t2 (dEq false) ta tb)) := pd_cmp (op_eqD hu) sop_eq ha hb (nomark _)
theorem pd_ne (hu : X.A.units + 64 < cLine) (ha : PE X a (lR X.K T E ta)) (hb : PE X b (lR X.K T E tb)) : PE X (.Compare a [.NotEq] [b] pos) (lF X.K T E (t2 (dEq true) ta tb)) := pd_cmp (op_neD hu) sop_ne ha hb (nomark _)
/-- is None -/
def D.isNon : D → Bool
  | .non => true
  | _ => false
def dIsN (neg : Bool) : D → D → (D → Prop) → Prop := fun x y P => match y with
  | .non => P (.bl (if neg then !x.isNon else x.isNon))
  | _ => False
theorem rp_non {G : Hp} : ∀ {d : D} {v : V} (_ : Rp K G d v), decide (v = .non) = d.isNon := by
  intro d v r
  cases d with
  | non => exact decide_eq_true r
  | bl b => exact decide_eq_false fun z => by cases (show v = .bl b from r).symm.trans z
  | int i => exact decide_eq_false fun z => by cases (show v = .int i from r).symm.trans z
  | str x => exact decide_eq_false fun z => by cases (show v = .str x from r).symm.trans z
  | ref a => exact decide_eq_false fun z => by cases (show v = .ref a from r).symm.trans z
  | kl ds =>
    obtain ⟨a, xs, e, _⟩ := r
    exact decide_eq_false fun z => by cases e.symm.trans z
  | kt ds =>
    obtain ⟨a, xs, e, _⟩ := r
    exact decide_eq_false fun z => by cases e.symm.trans z
  | tup ds =>
    obtain ⟨a, xs, e, _⟩ := r
    exact decide_eq_false fun z => by cases e.symm.trans z
  | lst ds =>
    obtain ⟨a, xs, e, _⟩ := r
    exact decide_eq_false fun z => by cases e.symm.trans z
  | dK ks ds =>
    obtain ⟨a, xs, e, _⟩ := r
    exact decide_eq_false fun z => by cases e.symm.trans z
  | dT ks ds =>
    obtain ⟨a, xs, e, _⟩ := r
    exact decide_eq_false fun z => by cases e.symm.trans z
theorem sop_isN : Sop K (fun x y H Q => y = .non ∧ Q (.bl (decide (x = .non))) H) (dIsN false) := by
  intro s H dx dy x y P Q rx ry h k
  unfold dIsN at h
  cases dy with
  | non =>
    refine ⟨ry, k _ _ h fun _ => ?_⟩
    show V.bl _ = V.bl _
    rw [rp_non rx] <;> rfl
  | _ => exact h.elim
theorem sop_notN : Sop K (fun x y H Q => y = .non ∧ Q (.bl (!decide (x = .non))) H) (dIsN true) := by
  intro s H dx dy x y P Q rx ry h k
  unfold dIsN at h
  cases dy with
  | non =>
    refine ⟨ry, k _ _ h fun _ => ?_⟩
    show V.bl _ = V.bl _
    rw [rp_non rx] <;> rfl
  | _ => exact h.elim
theorem pd_isN (ha : PE X a (lR X.K T E ta)) (hb : PE X b (lR X.K T E tb)) : PE X (.Compare a [.Is] [b] pos) (lF X.K T E (t2 (dIsN false) ta tb)) := pd_cmp op_isN sop_isN ha hb (nomark _)
theorem pd_notN (ha : PE X a (lR X.K T E ta)) (hb : PE X b (lR X.K T E tb)) : PE X (.Compare a [.IsNot] [b] pos) (lF X.K T E (t2 (dIsN true) ta tb)) := pd_cmp op_notN sop_notN ha hb (nomark _)
end
end Wn

set_option Elab.async false
set_option linter.all false
set_option maxRecDepth 100000
set_option maxHeartbeats 4000000
namespace Wn
open PySem L2
/-! ### tests -/
def tBl (t : TD) : TDB := fun δ P EP => t δ (fun d => match d with
  | .bl b => P b
  | _ => False) EP
def tAndB (t u : TDB) : TDB := fun δ P EP => t δ (fun b => match b with
  | true => u δ P EP
  | false => P false) EP
def tOrB (t u : TDB) : TDB := fun δ P EP => t δ (fun b => match b with
  | true => P true
  | false => u δ P EP) EP
def tNotB (t : TDB) : TDB := fun δ P EP => t δ (fun b => P (!b)) EP
def tBV (t : TDB) : TD := fun δ P EP => t δ (fun b => P (.bl b)) EP
def tAndD (t u : TD) : TD := fun δ P EP => t δ (fun d => match d with
  | .bl true => u δ P EP
  | .bl false => P (.bl false)
  | _ => False) EP
def tOrD (t u : TD) : TD := fun δ P EP => t δ (fun d => match d with
  | .bl true => P (.bl true)
  | .bl false => u δ P EP
  | _ => False) EP
def tNotD (t : TD) : TD := fun δ P EP => t δ (fun d => match d with
  | .bl b => P (.bl (!b))
  | _ => False) EP
def tNeg (t : TD) : TD := fun δ P EP => t δ (fun d => match d with
  | .int i => P (.int (-i))
  | _ => False) EP
def tIfE (c : TDB) (t u : TD) : TD := fun δ P EP => c δ (fun b => match b with
  | true => t δ P EP
  | false => u δ P EP) EP
def tIfL (c : TDB) (t u : TDL) : TDL := fun δ P EP => c δ (fun b => match b with
  | true => t δ P EP
  | false => u δ P EP) EP
section
variable {X : Cx} {K : PySem.W.Frag} {T : Tbl} {E : XK} {e a b c : Expr} {t ta tb : TD} {tA tB' : TDB} {pos : Pos} {rest : List Expr}
theorem pd_t (h : PE X e (lR K T E t)) (he : ∀ whole, isTrue e X.env whole = (do let v ← whole; standAt e.pos; holding [v] (truthy v)) := by intro _; rfl) : PT X e (lB K T E (tBl t)) :=
  pt_imp (pt_val h he) fun σ H Q ⟨δ, G0, H0, G, P, EP, L, ht, k⟩ => ⟨δ, G0, H0, G, _, EP, L, ht, fun d hd v H' g r => by
    cases d with
    | bl b => exact ⟨b, r, k b hd H' g⟩
    | _ => exact hd.elim⟩
/-- comparisons as tests -/
theorem pd_tcmp {op : CmpOp} {r : R2} {f : D → D → (D → Prop) → Prop} (ho : OpR X (compareOp op) r) (hs : Sop K r f) (ha : PE X a (lR K T E ta)) (hb : PE X b (lR K T E tb)) (hm : behindInMarks op b = false) : PT X (.Compare a [op] [b] pos) (lB K T E (tBl (t2 f ta tb))) :=
  pt_imp (pt_cmpR ho ha hb hm) fun σ H Q ⟨δ, G0, H0, G, P, EP, L, ht, k⟩ => two_run (r := r) (f := f) (Q := fun x H' => ∃ k, x = .bl k ∧ Q k H') hs ⟨δ, G0, H0, G, _, EP, L, ht, fun d hd v H' G' x r => by
    cases d with
    | bl b => exact ⟨b, r, k b hd H' x.gr⟩
    | _ => exact hd.elim⟩
theorem pd_tchain {op op' : CmpOp} {r r' : R2} {f f' : D → D → (D → Prop) → Prop} {tc : TD} (ho : OpR X (compareOp op) r) (ho' : OpR X (compareOp op') r') (hs : Sop K r f) (hs' : Sop K r' f') (ha : PE X a (lR K T E ta)) (hb : PE X b (lR K T E tb)) (hc : PE X c (lR K T E tc))
    (hm : lastMarks [op, op'] [b, c] = false := by with_unfolding_all rfl) : PT X (.Compare a [op, op'] [b, c] pos) (lB K T E (tBl (tCh f f' ta tb tc))) :=
  pt_imp (pt_chain ho ho' ha hb hc hm) fun σ H Q ⟨δ, G0, H0, G, P, EP, L, ht, k⟩ => chain_run (r := r) (r' := r') (f := f) (f' := f') (Q := fun x H' => ∃ k, x = .bl k ∧ Q k H') hs hs' ⟨δ, G0, H0, G, _, EP, L, ht, fun d hd v H' G' x r => by
    cases d with
    | bl b => exact ⟨b, r, k b hd H' x.gr⟩
    | _ => exact hd.elim⟩
theorem pd_tlt (ha : PE X a (lR K T E ta)) (hb : PE X b (lR K T E tb)) : PT X (.Compare a [.Lt] [b] pos) (lB K T E (tBl (t2 dLt ta tb))) := pd_tcmp op_lt (sopI0 fun _ _ _ => rfl) ha hb (nomark _)
theorem pd_tle (ha : PE X a (lR K T E ta)) (hb : PE X b (lR K T E tb)) : PT X (.Compare a [.LtE] [b] pos) (lB K T E (tBl (t2 dLe ta tb))) := pd_tcmp op_le (sopI0 fun _ _ _ => rfl) ha hb (nomark _)
theorem pd_tgt (ha : PE X a (lR K T E ta)) (hb : PE X b (lR K T E tb)) : PT X (.Compare a [.Gt] [b] pos) (lB K T E (tBl (t2 dGt ta tb))) := pd_tcmp op_gt (sopI0 fun _ _ _ => rfl) ha hb (nomark _)
theorem pd_tge (ha : PE X a (lR K T E ta)) (hb : PE X b (lR K T E tb)) : PT X (.Compare a [.GtE] [b] pos) (lB K T E (tBl (t2 dGe ta tb))) := pd_tcmp op_ge (sopI0 fun _ _ _ => rfl) ha hb (nomark _)
theorem pd_teq (hu : X.A.units + 64 < cLine) (ha : PE X a (lR X.K T E ta)) (hb : PE X b (lR X.K T E tb)) : PT X (.Compare a [.Eq] [b] pos) (lB X.K T E (tBl (t2 (dEq false) ta tb))) := pd_tcmp (op_eqD hu) sop_eq ha hb (nomark _)
theorem pd_tne (hu : X.A.units + 64 < cLine) (ha : PE X a (lR X.K T E ta)) (hb : PE X b (lR X.K T E tb)) : PT X (.Compare a [.NotEq] [b] pos) (lB X.K T E (tBl (t2 (dEq true) ta tb))) := pd_tcmp (op_neD hu) sop_ne ha hb (nomark _)
theorem pd_tisN (ha : PE X a (lR X.K T E ta)) (hb : PE X b (lR X.K T E tb)) : PT X (.Compare a [.Is] [b] pos) (lB X.K T E (tBl (t2 (dIsN false) ta tb))) := pd_tcmp op_isN sop_isN ha hb (nomark _)
theorem pd_tnotN (ha : PE X a (lR X.K T E ta)) (hb : PE X b (lR X.K T E tb)) : PT X (.Compare a [.IsNot] [b] pos) (lB X.K T E (tBl (t2 (dIsN true) ta tb))) := pd_tcmp op_notN sop_notN ha hb (nomark _)
theorem pd_tlele {tc : TD} (ha : PE X a (lR K T E ta)) (hb : PE X b (lR K T E tb)) (hc : PE X c (lR K T E tc)) (hm : lastMarks [CmpOp.LtE, CmpOp.LtE] [b, c] = false := by with_unfolding_all rfl) : PT X (.Compare a [.LtE, .LtE] [b, c] pos) (lB K T E (tBl (tCh dLe dLe ta tb tc))) :=
  pd_tchain op_le op_le (sopI0 fun _ _ _ => rfl) (sopI0 fun _ _ _ => rfl) ha hb hc hm
theorem pd_tltlt {tc : TD} (ha : PE X a (lR K T E ta)) (hb : PE X b (lR K T E tb)) (hc : PE X c (lR K T E tc)) (hm : lastMarks [CmpOp.Lt, CmpOp.Lt] [b, c] = false := by with_unfolding_all rfl) : PT X (.Compare a [.Lt, .Lt] [b, c] pos) (lB K T E (tBl (tCh dLt dLt ta tb tc))) :=
  pd_tchain op_lt op_lt (sopI0 fun _ _ _ => rfl) (sopI0 fun _ _ _ => rfl) ha hb hc hm
theorem pd_tltle {tc : TD} (ha : PE X a (lR K T E ta)) (hb : PE X b (lR K T E tb)) (hc : PE X c (lR K T E tc)) (hm : lastMarks [CmpOp.Lt, CmpOp.LtE] [b, c] = false := by with_unfolding_all rfl) : PT X (.Compare a [.Lt, .LtE] [b, c] pos) (lB K T E (tBl (tCh dLt dLe ta tb tc))) :=
  pd_tchain op_lt op_le (sopI0 fun _ _ _ => rfl) (sopI0 fun _ _ _ => rfl) ha hb hc hm
theorem pd_and1 (ha : PT X a (lB K T E tA)) : PW X (.BoolOp .And [a] pos) (lB K T E tA) := pw_and1 ha
theorem pd_or1 (ha : PT X a (lB K T E tA)) : PW X (.BoolOp .Or [a] pos) (lB K T E tA) := pw_or1 ha
theorem pd_and (ha : PT X a (lB K T E tA)) (hb : PW X (.BoolOp .And (b :: rest) pos) (lB K T E tB')) : PW X (.BoolOp .And (a :: b :: rest) pos) (lB K T E (tAndB tA tB')) :=
  pw_imp (pw_and ha hb) fun σ H Q ⟨δ, G0, H0, G, P, EP, L, ht, k⟩ => ⟨δ, G0, H0, G, _, EP, L, ht, fun c hc H1 g => by
    cases c with
    | true => exact iteT ⟨δ, G0, H0, G, P, EP, L.gr g, hc, fun b hb H' g' => k b hb H' (g.trans g')⟩
    | false => exact iteF (k _ hc H1 g)⟩
theorem pd_or (ha : PT X a (lB K T E tA)) (hb : PW X (.BoolOp .Or (b :: rest) pos) (lB K T E tB')) : PW X (.BoolOp .Or (a :: b :: rest) pos) (lB K T E (tOrB tA tB')) :=
  pw_imp (pw_or ha hb) fun σ H Q ⟨δ, G0, H0, G, P, EP, L, ht, k⟩ => ⟨δ, G0, H0, G, _, EP, L, ht, fun c hc H1 g => by
    cases c with
    | true => exact iteT (k _ hc H1 g)
    | false => exact iteF ⟨δ, G0, H0, G, P, EP, L.gr g, hc, fun b hb H' g' => k b hb H' (g.trans g')⟩⟩
theorem pd_notT (ha : PT X a (lB K T E tA)) : PT X (.UnaryOp .Not a pos) (lB K T E (tNotB tA)) :=
  pt_imp (pt_not ha) fun σ H Q ⟨δ, G0, H0, G, P, EP, L, ht, k⟩ => ⟨δ, G0, H0, G, _, EP, L, ht, fun c hc H1 g => k _ hc H1 g⟩
/-- and, or, not as values -/
theorem pd_one {op} (h : PE X a (lR K T E t)) : PE X (.BoolOp op [a] pos) (lR K T E t) := pe_one h
theorem pd_oneF {op} (h : PE X a (lF K T E t)) : PE X (.BoolOp op [a] pos) (lF K T E t) := pe_one h
theorem pd_andV (ha : PE X a (lR K T E ta)) (hb : PE X (.BoolOp .And (b :: rest) pos) (lF K T E tb)) : PE X (.BoolOp .And (a :: b :: rest) pos) (lF K T E (tAndD ta tb)) :=
  pe_imp (pe_and ha hb) fun σ H Q ⟨δ, G0, H0, G, P, EP, L, ht, k⟩ => ⟨δ, G0, H0, G, _, EP, L, ht, fun d hd v H1 g r => by
    cases d with
    | bl q =>
      refine ⟨q, r, ?_⟩
      cases q with
      | true => exact iteT ⟨δ, G0, H0, G, P, EP, L.gr g, hd, fun d' hd' v' H' G' x r' => k d' hd' v' H' G' ((Stp.of_gr L.rep.gv g).trans x) r'⟩
      | false => exact iteF (k _ hd _ H1 G (.of_gr L.rep.gv g) rfl)
    | _ => exact hd.elim⟩
theorem pd_orV (ha : PE X a (lR K T E ta)) (hb : PE X (.BoolOp .Or (b :: rest) pos) (lF K T E tb)) : PE X (.BoolOp .Or (a :: b :: rest) pos) (lF K T E (tOrD ta tb)) :=
  pe_imp (pe_or ha hb) fun σ H Q ⟨δ, G0, H0, G, P, EP, L, ht, k⟩ => ⟨δ, G0, H0, G, _, EP, L, ht, fun d hd v H1 g r => by
    cases d with
    | bl q =>
      refine ⟨q, r, ?_⟩
      cases q with
      | true => exact iteT (k _ hd _ H1 G (.of_gr L.rep.gv g) rfl)
      | false => exact iteF ⟨δ, G0, H0, G, P, EP, L.gr g, hd, fun d' hd' v' H' G' x r' => k d' hd' v' H' G' ((Stp.of_gr L.rep.gv g).trans x) r'⟩
    | _ => exact hd.elim⟩
theorem pd_notV (ha : PE X a (lR K T E ta)) : PE X (.UnaryOp .Not a pos) (lF K T E (tNotD ta)) :=
  pe_imp (pe_not ha) fun σ H Q ⟨δ, G0, H0, G, P, EP, L, ht, k⟩ => ⟨δ, G0, H0, G, _, EP, L, ht, fun d hd v H1 g r => by
    cases d with
    | bl q => exact ⟨q, r, k _ hd _ H1 G (.of_gr L.rep.gv g) rfl⟩
    | _ => exact hd.elim⟩
theorem pd_neg (ha : PE X a (lR K T E ta)) : PE X (.UnaryOp .USub a pos) (lF K T E (tNeg ta)) :=
  pe_imp (pe_un un_neg ha) fun σ H Q ⟨δ, G0, H0, G, P, EP, L, ht, k⟩ => ⟨δ, G0, H0, G, _, EP, L, ht, fun d hd v H1 g r => by
    cases d with
    | int q => exact ⟨q, r, k _ hd _ H1 G (.of_gr L.rep.gv g) rfl⟩
    | _ => exact hd.elim⟩
theorem pd_ifF (hc : PT X c (lB K T E tA)) (ha : PE X a (lF K T E ta)) (hb : PE X b (lF K T E tb)) : PE X (.IfExp c a b pos) (lF K T E (tIfE tA ta tb)) :=
  pe_imp (pe_ifExp hc ha hb) fun σ H Q ⟨δ, G0, H0, G, P, EP, L, ht, k⟩ => ⟨δ, G0, H0, G, _, EP, L, ht, fun c hc H1 g => by
    cases c with
    | true => exact iteT ⟨δ, G0, H0, G, P, EP, L.gr g, hc, fun d' hd' v' H' G' x r' => k d' hd' v' H' G' ((Stp.of_gr L.rep.gv g).trans x) r'⟩
    | false => exact iteF ⟨δ, G0, H0, G, P, EP, L.gr g, hc, fun d' hd' v' H' G' x r' => k d' hd' v' H' G' ((Stp.of_gr L.rep.gv g).trans x) r'⟩⟩
theorem pd_ifR (hc : PT X c (lB K T E tA)) (ha : PE X a (lR K T E ta)) (hb : PE X b (lR K T E tb)) : PE X (.IfExp c a b pos) (lR K T E (tIfE tA ta tb)) :=
  pe_imp (pe_ifExp hc ha hb) fun σ H Q ⟨δ, G0, H0, G, P, EP, L, ht, k⟩ => ⟨δ, G0, H0, G, _, EP, L, ht, fun c hc H1 g => by
    cases c with
    | true => exact iteT ⟨δ, G0, H0, G, P, EP, L.gr g, hc, fun d' hd' v' H' x r' => k d' hd' v' H' (g.trans x) r'⟩
    | false => exact iteF ⟨δ, G0, H0, G, P, EP, L.gr g, hc, fun d' hd' v' H' x r' => k d' hd' v' H' (g.trans x) r'⟩⟩
theorem pd_ifN {ta tb : TDL} (hc : PT X c (lB K T E tA)) (ha : PE X a (lN K T E ta)) (hb : PE X b (lN K T E tb)) : PE X (.IfExp c a b pos) (lN K T E (tIfL tA ta tb)) :=
  pe_imp (pe_ifExp hc ha hb) fun σ H Q ⟨δ, G0, H0, G, P, EP, L, ht, k⟩ => ⟨δ, G0, H0, G, _, EP, L, ht, fun c hc H1 g => by
    cases c with
    | true => exact iteT ⟨δ, G0, H0, G, P, EP, L.gr g, hc, fun d' hd' v' us H' G' x h1 h2 h3 r' => k d' hd' v' us H' G' ((Stp.of_gr L.rep.gv g).trans x) (g.none_of h1) h2 h3 r'⟩
    | false => exact iteF ⟨δ, G0, H0, G, P, EP, L.gr g, hc, fun d' hd' v' us H' G' x h1 h2 h3 r' => k d' hd' v' us H' G' ((Stp.of_gr L.rep.gv g).trans x) (g.none_of h1) h2 h3 r'⟩⟩
end
/-! ### arguments, displays -/
def tA0 : TDL := fun _ P _ => P []
def tA1 (t : TD) (r : TDL) : TDL := fun δ P EP => t δ (fun x => r δ (fun xs => P (x :: xs)) EP) EP
def tSize (t : TDL) : TDL := fun δ P EP => t δ (fun ds => match Nat.ble ds.length 100000 with
  | true => P ds
  | false => False) EP
def tTupD (t : TDL) : TD := fun δ P EP => tSize t δ (fun ds => P (.tup ds)) EP
theorem size_line {n : Nat} (h : Nat.ble n 100000 = true) : n ≤ sizeLine := Nat.le_trans (Nat.le_of_ble_eq_true h) (by decide)
section
variable {X : Cx} {K : PySem.W.Frag} {T : Tbl} {E : XK} {e : Expr} {es : List Expr} {t : TD} {r : TDL} {pos : Pos}
theorem pd_a0 : PA X [] (lA K T E tA0) := pa_imp pa_nil fun σ H Q ⟨δ, G0, H0, G, P, EP, L, ht, k⟩ => k [] ht [] H G (.refl L.rep.gv) rfl
theorem pd_a1 (h : PE X e (lF K T E t)) (hr : PA X es (lA K T E r)) (hs : starEach (e :: es) X.env = (false, eval e X.env) :: starEach es X.env := by rfl) : PA X (e :: es) (lA K T E (tA1 t r)) :=
  pa_imp (pa_cons h hr hs) fun σ H Q ⟨δ, G0, H0, G, P, EP, L, ht, k⟩ => ⟨δ, G0, H0, G, _, EP, L, ht, fun d hd v H1 G1 x1 r1 => ⟨δ, G0, H0, G1, _, EP, L.stp x1, hd, fun ds hds vs H2 G2 x2 r2 =>
    k _ hds _ H2 G2 (x1.trans x2) (.cons (r1.mono x2.gg) r2)⟩⟩
theorem pd_b0 : PA X [] (lAR K T E tA0) := pa_imp pa_nil fun σ H Q ⟨δ, G0, H0, G, P, EP, L, ht, k⟩ => k [] ht [] H .refl rfl
theorem pd_b1 (h : PE X e (lR K T E t)) (hr : PA X es (lAR K T E r)) (hs : starEach (e :: es) X.env = (false, eval e X.env) :: starEach es X.env := by rfl) : PA X (e :: es) (lAR K T E (tA1 t r)) :=
  pa_imp (pa_cons h hr hs) fun σ H Q ⟨δ, G0, H0, G, P, EP, L, ht, k⟩ => ⟨δ, G0, H0, G, _, EP, L, ht, fun d hd v H1 g1 r1 => ⟨δ, G0, H0, G, _, EP, L.gr g1, hd, fun ds hds vs H2 g2 r2 =>
    k _ hds _ H2 (g1.trans g2) (.cons (r1.mono g2.ex) r2)⟩⟩
theorem pd_tup {x1} (h : PA X es (lA K T E r)) : PE X (.Tuple es x1 pos) (lF K T E (tTupD r)) :=
  pe_imp (pe_tup h) fun σ H Q ⟨δ, G0, H0, G, P, EP, L, ht, k⟩ => ⟨δ, G0, H0, G, _, EP, L, ht, fun ds hds vs H1 G1 x1 r1 => by
    cases q : Nat.ble ds.length 100000 with
    | false =>
      rw [q] at hds
      exact hds.elim
    | true =>
      rw [q] at hds
      refine ⟨by rw [r1.len]; exact size_line q, fun p hp => ?_⟩
      have x2 : Stp T δ.s G1 (upd G1 p (.tup vs)) H1 (upd H1 p (.tup vs)) := (L.stp x1).rep.fresh hp fun ps z => by cases z
      exact k _ hds (.ref p) _ _ (x1.trans x2) ⟨p, vs, rfl, upd_same, r1.mono x2.gg⟩⟩
theorem pd_lst (h : PA X es (lA K T E r)) : PE X (.List es pos) (lN K T E (tSize r)) :=
  pe_imp (pe_lst h) fun σ H Q ⟨δ, G0, H0, G, P, EP, L, ht, k⟩ => ⟨δ, G0, H0, G, _, EP, L, ht, fun ds hds vs H1 G1 x1 r1 => by
    cases q : Nat.ble ds.length 100000 with
    | false =>
      rw [q] at hds
      exact hds.elim
    | true =>
      rw [q] at hds
      refine ⟨by rw [r1.len]; exact size_line q, fun p hp => ?_⟩
      have R1 := (L.stp x1).rep
      have g1 : G1 p = none := by
        cases z : G1 p with
        | none => rfl
        | some u =>
          have z2 := (vw_of (R1.gv _ _ z)).1
          rw [hp] at z2
          cases z2
      exact k _ hds p vs _ G1 (x1.trans (.of_gr R1.gv (.new hp))) (x1.gr.none_of hp) g1 upd_same r1⟩
end
/-! ### built-ins by values -/
/-- r on what is read as ds gives what f says, no object -/
def Cop (K : PySem.W.Frag) (r : List V → Hp → VK → Prop) (f : List D → (D → Prop) → Prop) : Prop :=
  ∀ (s : Option Addr) (H : Hp) (ds : List D) (vs : List V) (P : D → Prop) (Q : VK), RpA K (vw s H) ds vs → f ds P → (∀ d v, P d → (∀ G, Rp K G d v) → Q v H) → r vs H Q
def tCD (f : List D → (D → Prop) → Prop) (t : TDL) : TD := fun δ P EP => t δ (fun ds => f ds P) EP
section
variable {X : Cx} {K : PySem.W.Frag} {T : Tbl} {E : XK} {e : Expr} {es : List Expr} {t : TDL} {x : Str} {p pos : Pos} {id Ty : String} {r : List V → Hp → VK → Prop} {f : List D → (D → Prop) → Prop}
theorem cb_run {σ : L2.St} {H : Hp} {Q : VK} (hf : Cop K r f) (h : lF K T E (tCD f t) σ H Q) : tCB r (lAR K T E t) σ H Q := by
  obtain ⟨δ, G0, H0, G, P, EP, L, ht, k⟩ := h
  exact ⟨δ, G0, H0, G, _, EP, L, ht, fun ds hds vs H1 g1 r1 => hf δ.s H1 ds vs P Q r1 hds fun d v hd rr => k d hd v H1 G (.of_gr L.rep.gv g1) (rr G)⟩
theorem pd_cb (hc : CallR X (.builtin id) r) (hf : Cop K r f) (hg : Gl X x) (hm : X.mg x = none) (hv : bootBuiltins x = some (.builtin id)) (ha : PA X (e :: es) (lAR K T E t)) (hn : x ≠ "__name__" := by decide) (hdb : (x == ("__debug__" : Str)) = false := by decide)
    (he : starEach (e :: es) X.env = (false, eval e X.env) :: starEach es X.env := by rfl) (hpl : (backTo pos (starEach es X.env)).any (·.1) = false := by rfl) : PE X (.Call (.Name x p) (e :: es) [] pos) (lF K T E (tCD f t)) :=
  pe_imp (pe_callB hc hg hm hv ha hn hdb he hpl) fun _ _ _ h => cb_run hf h
theorem pd_ct (hc : CallR X (.type Ty) r) (hf : Cop K r f) (hg : Gl X x) (hm : X.mg x = none) (hv : bootBuiltins x = some (.type Ty)) (ha : PA X (e :: es) (lAR K T E t)) (hn : x ≠ "__name__" := by decide) (hdb : (x == ("__debug__" : Str)) = false := by decide)
    (he : starEach (e :: es) X.env = (false, eval e X.env) :: starEach es X.env := by rfl) (hpl : (backTo pos (starEach es X.env)).any (·.1) = false := by rfl) : PE X (.Call (.Name x p) (e :: es) [] pos) (lF K T E (tCD f t)) :=
  pe_imp (pe_callTy hc hg hm hv ha hn hdb he hpl) fun _ _ _ h => cb_run hf h
end
def fLen : List D → (D → Prop) → Prop := fun ds P => match ds with
  | [.lst xs] => P (.int xs.length)
  | [.tup xs] => P (.int xs.length)
  | [.kl xs] => P (.int xs.length)
  | [.kt xs] => P (.int xs.length)
  | [.str x] => x.length ≤ sizeLine ∧ P (.int x.length)
  | _ => False
def fAbs : List D → (D → Prop) → Prop := fun ds P => match ds with
  | [.int i] => P (.int (if i < 0 then -i else i))
  | _ => False
def fInt : List D → (D → Prop) → Prop := fun ds P => match ds with
  | [.int i] => P (.int i)
  | [.bl b] => P (.int (if b then 1 else 0))
  | _ => False
def fBool : List D → (D → Prop) → Prop := fun ds P => match ds with
  | [.int i] => P (.bl (i != 0))
  | [.bl b] => P (.bl b)
  | _ => False
def fStrI : List D → (D → Prop) → Prop := fun ds P => match ds with
  | [.int i] => i.natAbs.log2 < 1920 ∧ P (.str (toString i))
  | _ => False
def intsOf : List D → Option (List Int)
  | [] => some []
  | .int i :: ds => (intsOf ds).map (i :: ·)
  | _ => none
def blsOf : List D → Option (List Bool)
  | [] => some []
  | .bl i :: ds => (blsOf ds).map (i :: ·)
  | _ => none
theorem intsOf_map : ∀ ns : List Int, intsOf (ns.map D.int) = some ns
  | [] => rfl
  | n :: ns => by
    show (intsOf (ns.map D.int)).map (n :: ·) = _
    rw [intsOf_map ns] <;> rfl
theorem blsOf_map : ∀ ns : List Bool, blsOf (ns.map D.bl) = some ns
  | [] => rfl
  | n :: ns => by
    show (blsOf (ns.map D.bl)).map (n :: ·) = _
    rw [blsOf_map ns] <;> rfl
theorem of_intsOf : ∀ {ds : List D} {ns : List Int}, intsOf ds = some ns → ds = ns.map D.int
  | [], ns, h => by
    cases h
    rfl
  | d :: ds, ns, h => by
    cases d with
    | int i =>
      have h : (intsOf ds).map (i :: ·) = some ns := h
      cases q : intsOf ds with
      | none =>
        rw [q] at h
        cases h
      | some ms =>
        rw [q] at h
        cases h
        rw [of_intsOf q] <;> rfl
    | _ => cases h
theorem of_blsOf : ∀ {ds : List D} {ns : List Bool}, blsOf ds = some ns → ds = ns.map D.bl
  | [], ns, h => by
    cases h
    rfl
  | d :: ds, ns, h => by
    cases d with
    | bl i =>
      have h : (blsOf ds).map (i :: ·) = some ns := h
      cases q : blsOf ds with
      | none =>
        rw [q] at h
        cases h
      | some ms =>
        rw [q] at h
        cases h
        rw [of_blsOf q] <;> rfl
    | _ => cases h
/-- sum, of a list or a tuple of ints -/
def itemsD : D → Option (List D)
  | .lst xs => some xs
  | .tup xs => some xs
  | _ => none
def onInts (d : D) (k : List Int → Prop) : Prop := match itemsD d with
  | some xs => (match intsOf xs with
    | some ns => k ns
    | none => False)
  | none => False
def onBls (d : D) (k : List Bool → Prop) : Prop := match d with
  | .lst xs => (match blsOf xs with
    | some ns => k ns
    | none => False)
  | _ => False
theorem onInts_of {d : D} {k : List Int → Prop} (h : onInts d k) : ∃ ns, k ns ∧ (d = .lst (ns.map D.int) ∨ d = .tup (ns.map D.int)) := by
  unfold onInts at h
  cases q : itemsD d with
  | none =>
    rw [q] at h
    exact h.elim
  | some xs =>
    rw [q] at h
    have h : (match intsOf xs with | some ns => k ns | none => False) := h
    cases q2 : intsOf xs with
    | none =>
      rw [q2] at h
      exact h.elim
    | some ns =>
      rw [q2] at h
      have e := of_intsOf q2
      refine ⟨ns, h, ?_⟩
      cases d with
      | lst ys =>
        cases q
        rw [e]
        exact .inl rfl
      | tup ys =>
        cases q
        rw [e]
        exact .inr rfl
      | _ => cases q
theorem onBls_of {d : D} {k : List Bool → Prop} (h : onBls d k) : ∃ ns, k ns ∧ d = .lst (ns.map D.bl) := by
  unfold onBls at h
  cases d with
  | lst xs =>
    have h : (match blsOf xs with | some ns => k ns | none => False) := h
    cases q2 : blsOf xs with
    | none =>
      rw [q2] at h
      exact h.elim
    | some ns =>
      rw [q2] at h
      rw [of_blsOf q2]
      exact ⟨ns, h, rfl⟩
  | _ => exact h.elim
def fSum : List D → (D → Prop) → Prop := fun ds P => match ds with
  | [d] => onInts d fun ns => P (.int ns.sum)
  | _ => False
def fMax : List D → (D → Prop) → Prop := fun ds P => match ds with
  | [.lst xs] => onInts (.lst xs) fun ns => 0 < ns.length ∧ ∀ m, m ∈ ns → (∀ y, y ∈ ns → y ≤ m) → P (.int m)
  | [.int i, .int j] => P (.int (if j > i then j else i))
  | _ => False
def fMin : List D → (D → Prop) → Prop := fun ds P => match ds with
  | [.lst xs] => onInts (.lst xs) fun ns => 0 < ns.length ∧ ∀ m, m ∈ ns → (∀ y, y ∈ ns → m ≤ y) → P (.int m)
  | [.int i, .int j] => P (.int (if j < i then j else i))
  | _ => False
def fAll : List D → (D → Prop) → Prop := fun ds P => match ds with
  | [d] => onBls d fun ns => P (.bl (ns.all id))
  | _ => False
def fAny : List D → (D → Prop) → Prop := fun ds P => match ds with
  | [d] => onBls d fun ns => P (.bl (ns.any id))
  | _ => False
section
variable {K : PySem.W.Frag} {G : Hp}
theorem RpA.one {d : D} {vs : List V} (h : RpA K G [d] vs) : ∃ v, vs = [v] ∧ Rp K G d v := by
  obtain ⟨x, r, e, h1, h2⟩ := h
  rw [show r = [] from h2] at e
  exact ⟨x, e, h1⟩
theorem RpA.two {d d' : D} {vs : List V} (h : RpA K G [d, d'] vs) : ∃ v v', vs = [v, v'] ∧ Rp K G d v ∧ Rp K G d' v' := by
  obtain ⟨x, r, e, h1, h2⟩ := h
  obtain ⟨y, e2, h3⟩ := RpA.one h2
  rw [e2] at e
  exact ⟨x, y, e, h1, h3⟩
theorem cop_len : Cop K (fun xs H Q => ∃ x n, xs = [x] ∧ LenV K x H n ∧ Q (.int n) H) fLen := by
  intro s H ds vs P Q r h k
  unfold fLen at h
  split at h
  · obtain ⟨v, e, a, us, ev, h1, h2⟩ := RpA.one r
    refine ⟨v, _, e, ?_, k _ _ h fun _ => rfl⟩
    rw [ev]
    exact .inl ⟨us, .of (vw_sub _ _ h1), h2.len.symm⟩
  · obtain ⟨v, e, a, us, ev, h1, h2⟩ := RpA.one r
    refine ⟨v, _, e, ?_, k _ _ h fun _ => rfl⟩
    rw [ev]
    exact .inr ⟨us, .of (vw_sub _ _ h1), h2.len.symm⟩
  · obtain ⟨v, e, a, us, ev, h1, h2⟩ := RpA.one r
    refine ⟨v, _, e, ?_, k _ _ h fun _ => rfl⟩
    rw [ev]
    exact .inl ⟨us, sqL_vw h1, h2.len.symm⟩
  · obtain ⟨v, e, a, us, ev, h1, h2⟩ := RpA.one r
    refine ⟨v, _, e, ?_, k _ _ h fun _ => rfl⟩
    rw [ev]
    exact .inr ⟨us, sqT_vw h1, h2.len.symm⟩
  · obtain ⟨v, e, ev⟩ := RpA.one r
    refine ⟨v, _, e, ?_, k _ _ h.2 fun _ => rfl⟩
    rw [show v = _ from ev]
    exact ⟨h.1, rfl⟩
  · exact h.elim
theorem cop_abs : Cop K (fun xs H Q => ∃ i, xs = [.int i] ∧ Q (.int (if i < 0 then -i else i)) H) fAbs := by
  intro s H ds vs P Q r h k
  unfold fAbs at h
  split at h
  · obtain ⟨v, e, ev⟩ := RpA.one r
    exact ⟨_, by rw [e, show v = _ from ev], k _ _ h fun _ => rfl⟩
  · exact h.elim
theorem cop_int : Cop K (fun xs H Q => (∃ i, xs = [.int i] ∧ Q (.int i) H) ∨ ∃ k, xs = [.bl k] ∧ Q (.int (if k then 1 else 0)) H) fInt := by
  intro s H ds vs P Q r h k
  unfold fInt at h
  split at h
  · obtain ⟨v, e, ev⟩ := RpA.one r
    exact .inl ⟨_, by rw [e, show v = _ from ev], k _ _ h fun _ => rfl⟩
  · obtain ⟨v, e, ev⟩ := RpA.one r
    exact .inr ⟨_, by rw [e, show v = _ from ev], k _ _ h fun _ => rfl⟩
  · exact h.elim
theorem cop_bool : Cop K (fun xs H Q => (∃ i, xs = [.int i] ∧ Q (.bl (i != 0)) H) ∨ ∃ k, xs = [.bl k] ∧ Q (.bl k) H) fBool := by
  intro s H ds vs P Q r h k
  unfold fBool at h
  split at h
  · obtain ⟨v, e, ev⟩ := RpA.one r
    exact .inl ⟨_, by rw [e, show v = _ from ev], k _ _ h fun _ => rfl⟩
  · obtain ⟨v, e, ev⟩ := RpA.one r
    exact .inr ⟨_, by rw [e, show v = _ from ev], k _ _ h fun _ => rfl⟩
  · exact h.elim
theorem cop_strI : Cop K (fun xs H Q => ∃ i, xs = [.int i] ∧ i.natAbs.log2 < 1920 ∧ Q (.str (toString i)) H) fStrI := by
  intro s H ds vs P Q r h k
  unfold fStrI at h
  split at h
  · obtain ⟨v, e, ev⟩ := RpA.one r
    exact ⟨_, by rw [e, show v = _ from ev], h.1, k _ _ h.2 fun _ => rfl⟩
  · exact h.elim
def rSumT (K : PySem.W.Frag) : List V → Hp → VK → Prop := fun vs H Q => ∃ (a : Addr) (ns : List Int), vs = [V.ref a] ∧ SqT K H a (ns.map V.int) ∧ Q (.int ns.sum) H
theorem cr_sumT {X : Cx} (hc : X.calm = true) : CallR X (.builtin "sum") (rSumT X.K) := by
  intro pins s σ H vs us Q I r h
  obtain ⟨a, ns, rfl, hs, q⟩ := h
  obtain ⟨its, rv, hl, _⟩ := I.tuple hs
  rw [Vals.ref1 r]
  obtain ⟨xs, e⟩ := rv.ints.allInts.items
  have hn : numsOf (intItems xs).toList = ns := by
    rw [← e]
    exact rv.ints.numsOf
  rw [nums_intItems] at hn
  have hT : s.heap.IsTuple a (intItems xs) := by
    rw [← e]
    exact hl
  refine PySem.W.ktm_sumG (I.ok.hd hc) hT fun h' tk t' hk => ?_
  rw [preSum_eq, List.take_of_length_le (by simp), hn]
  exact ⟨.int _, H, I.kept hk, ⟨_, rfl⟩, q⟩
theorem cop_sum : Cop K (fun xs H Q => rSum K xs H Q ∨ rSumT K xs H Q) fSum := by
  intro s H ds vs P Q r h k
  unfold fSum at h
  split at h
  · obtain ⟨v, e, ev⟩ := RpA.one r
    obtain ⟨ns, hp, e2⟩ := onInts_of h
    rcases e2 with e2 | e2
    · subst e2
      obtain ⟨a, us, e3, h1, h2⟩ := ev
      exact .inl ⟨a, ns, by rw [e, e3], by rw [← h2.ints]; exact .of (vw_sub _ _ h1), k _ _ hp fun _ => rfl⟩
    · subst e2
      obtain ⟨a, us, e3, h1, h2⟩ := ev
      exact .inr ⟨a, ns, by rw [e, e3], by rw [← h2.ints]; exact .of (vw_sub _ _ h1), k _ _ hp fun _ => rfl⟩
  · exact h.elim
theorem cop_max : Cop K (fun xs H Q => rMax K xs H Q ∨ ∃ i j, xs = [.int i, .int j] ∧ Q (.int (if j > i then j else i)) H) fMax := by
  intro s H ds vs P Q r h k
  unfold fMax at h
  split at h
  · obtain ⟨v, e, ev⟩ := RpA.one r
    obtain ⟨ns, hp, e2⟩ := onInts_of h
    rcases e2 with e2 | e2
    · cases e2
      obtain ⟨a, us, e3, h1, h2⟩ := ev
      exact .inl ⟨a, ns, by rw [e, e3], by rw [← h2.ints]; exact .of (vw_sub _ _ h1), hp.1, fun m hm hy => k _ _ (hp.2 m hm hy) fun _ => rfl⟩
    · cases e2
  · obtain ⟨v, v', e, e1, e2⟩ := RpA.two r
    exact .inr ⟨_, _, by rw [e, show v = _ from e1, show v' = _ from e2], k _ _ h fun _ => rfl⟩
  · exact h.elim
theorem cop_min : Cop K (fun xs H Q => rMin K xs H Q ∨ ∃ i j, xs = [.int i, .int j] ∧ Q (.int (if j < i then j else i)) H) fMin := by
  intro s H ds vs P Q r h k
  unfold fMin at h
  split at h
  · obtain ⟨v, e, ev⟩ := RpA.one r
    obtain ⟨ns, hp, e2⟩ := onInts_of h
    rcases e2 with e2 | e2
    · cases e2
      obtain ⟨a, us, e3, h1, h2⟩ := ev
      exact .inl ⟨a, ns, by rw [e, e3], by rw [← h2.ints]; exact .of (vw_sub _ _ h1), hp.1, fun m hm hy => k _ _ (hp.2 m hm hy) fun _ => rfl⟩
    · cases e2
  · obtain ⟨v, v', e, e1, e2⟩ := RpA.two r
    exact .inr ⟨_, _, by rw [e, show v = _ from e1, show v' = _ from e2], k _ _ h fun _ => rfl⟩
  · exact h.elim
theorem cop_all : Cop K (rAll K) fAll := by
  intro s H ds vs P Q r h k
  unfold fAll at h
  split at h
  · obtain ⟨v, e, ev⟩ := RpA.one r
    obtain ⟨ns, hp, e2⟩ := onBls_of h
    subst e2
    obtain ⟨a, us, e3, h1, h2⟩ := ev
    exact ⟨a, ns, by rw [e, e3], by rw [← h2.bls]; exact .of (vw_sub _ _ h1), k _ _ hp fun _ => rfl⟩
  · exact h.elim
theorem cop_any : Cop K (rAny K) fAny := by
  intro s H ds vs P Q r h k
  unfold fAny at h
  split at h
  · obtain ⟨v, e, ev⟩ := RpA.one r
    obtain ⟨ns, hp, e2⟩ := onBls_of h
    subst e2
    obtain ⟨a, us, e3, h1, h2⟩ := ev
    exact ⟨a, ns, by rw [e, e3], by rw [← h2.bls]; exact .of (vw_sub _ _ h1), k _ _ hp fun _ => rfl⟩
  · exact h.elim
end
section
variable {X : Cx} {T : Tbl} {E : XK} {e : Expr} {es : List Expr} {t : TDL} {p pos : Pos}
theorem pd_len (hm : X.mg "len" = none) (ha : PA X (e :: es) (lAR X.K T E t)) (hg : Gl X "len" := by rfl) (he : starEach (e :: es) X.env = (false, eval e X.env) :: starEach es X.env := by rfl) (hpl : (backTo pos (starEach es X.env)).any (·.1) = false := by rfl) :
    PE X (.Call (.Name "len" p) (e :: es) [] pos) (lF X.K T E (tCD fLen t)) := pd_cb call_len cop_len hg hm (by decide +kernel) ha (by decide) (by decide) he hpl
theorem pd_abs (hm : X.mg "abs" = none) (ha : PA X (e :: es) (lAR X.K T E t)) (hg : Gl X "abs" := by rfl) (he : starEach (e :: es) X.env = (false, eval e X.env) :: starEach es X.env := by rfl) (hpl : (backTo pos (starEach es X.env)).any (·.1) = false := by rfl) :
    PE X (.Call (.Name "abs" p) (e :: es) [] pos) (lF X.K T E (tCD fAbs t)) := pd_cb call_abs cop_abs hg hm (by decide +kernel) ha (by decide) (by decide) he hpl
theorem pd_sum (hc : X.calm = true) (hm : X.mg "sum" = none) (ha : PA X (e :: es) (lAR X.K T E t)) (hg : Gl X "sum" := by rfl) (he : starEach (e :: es) X.env = (false, eval e X.env) :: starEach es X.env := by rfl) (hpl : (backTo pos (starEach es X.env)).any (·.1) = false := by rfl) :
    PE X (.Call (.Name "sum" p) (e :: es) [] pos) (lF X.K T E (tCD fSum t)) := pd_cb ((cr_sum hc).or (cr_sumT hc)) cop_sum hg hm (by decide +kernel) ha (by decide) (by decide) he hpl
theorem pd_max (hc : X.calm = true) (hm : X.mg "max" = none) (ha : PA X (e :: es) (lAR X.K T E t)) (hg : Gl X "max" := by rfl) (he : starEach (e :: es) X.env = (false, eval e X.env) :: starEach es X.env := by rfl) (hpl : (backTo pos (starEach es X.env)).any (·.1) = false := by rfl) :
    PE X (.Call (.Name "max" p) (e :: es) [] pos) (lF X.K T E (tCD fMax t)) := pd_cb ((cr_max hc).or (call_max2 hc)) cop_max hg hm (by decide +kernel) ha (by decide) (by decide) he hpl
theorem pd_min (hc : X.calm = true) (hm : X.mg "min" = none) (ha : PA X (e :: es) (lAR X.K T E t)) (hg : Gl X "min" := by rfl) (he : starEach (e :: es) X.env = (false, eval e X.env) :: starEach es X.env := by rfl) (hpl : (backTo pos (starEach es X.env)).any (·.1) = false := by rfl) :
    PE X (.Call (.Name "min" p) (e :: es) [] pos) (lF X.K T E (tCD fMin t)) := pd_cb ((cr_min hc).or (call_min2 hc)) cop_min hg hm (by decide +kernel) ha (by decide) (by decide) he hpl
theorem pd_all (hc : X.calm = true) (hm : X.mg "all" = none) (ha : PA X (e :: es) (lAR X.K T E t)) (hg : Gl X "all" := by rfl) (he : starEach (e :: es) X.env = (false, eval e X.env) :: starEach es X.env := by rfl) (hpl : (backTo pos (starEach es X.env)).any (·.1) = false := by rfl) :
    PE X (.Call (.Name "all" p) (e :: es) [] pos) (lF X.K T E (tCD fAll t)) := pd_cb (cr_all hc) cop_all hg hm (by decide +kernel) ha (by decide) (by decide) he hpl
theorem pd_any (hc : X.calm = true) (hm : X.mg "any" = none) (ha : PA X (e :: es) (lAR X.K T E t)) (hg : Gl X "any" := by rfl) (he : starEach (e :: es) X.env = (false, eval e X.env) :: starEach es X.env := by rfl) (hpl : (backTo pos (starEach es X.env)).any (·.1) = false := by rfl) :
    PE X (.Call (.Name "any" p) (e :: es) [] pos) (lF X.K T E (tCD fAny t)) := pd_cb (cr_any hc) cop_any hg hm (by decide +kernel) ha (by decide) (by decide) he hpl
theorem pd_intc (hm : X.mg "int" = none) (ha : PA X (e :: es) (lAR X.K T E t)) (hg : Gl X "int" := by rfl) (he : starEach (e :: es) X.env = (false, eval e X.env) :: starEach es X.env := by rfl) (hpl : (backTo pos (starEach es X.env)).any (·.1) = false := by rfl) :
    PE X (.Call (.Name "int" p) (e :: es) [] pos) (lF X.K T E (tCD fInt t)) := pd_ct call_int1 cop_int hg hm (by decide +kernel) ha (by decide) (by decide) he hpl
theorem pd_boolc (hm : X.mg "bool" = none) (ha : PA X (e :: es) (lAR X.K T E t)) (hg : Gl X "bool" := by rfl) (he : starEach (e :: es) X.env = (false, eval e X.env) :: starEach es X.env := by rfl) (hpl : (backTo pos (starEach es X.env)).any (·.1) = false := by rfl) :
    PE X (.Call (.Name "bool" p) (e :: es) [] pos) (lF X.K T E (tCD fBool t)) := pd_ct call_bool1 cop_bool hg hm (by decide +kernel) ha (by decide) (by decide) he hpl
theorem pd_strI (hm : X.mg "str" = none) (ha : PA X (e :: es) (lAR X.K T E t)) (hg : Gl X "str" := by rfl) (he : starEach (e :: es) X.env = (false, eval e X.env) :: starEach es X.env := by rfl) (hpl : (backTo pos (starEach es X.env)).any (·.1) = false := by rfl) :
    PE X (.Call (.Name "str" p) (e :: es) [] pos) (lF X.K T E (tCD fStrI t)) := pd_ct call_str_int cop_strI hg hm (by decide +kernel) ha (by decide) (by decide) he hpl
end
end Wn

set_option Elab.async false
set_option linter.all false
set_option maxRecDepth 100000
set_option maxHeartbeats 4000000
namespace Wn
open PySem L2
/-- the list's items stand still, the list may be the frame's own -/
def lL (K : PySem.W.Frag) (T : Tbl) (E : XK) (t : TDL) : TE := fun σ H Q => ∃ δ G0 H0 G P EP, Lv K T E G0 H0 G H σ δ EP ∧ t δ P EP ∧ ∀ ds, P ds → ∀ a us H' G', Stp T δ.s G G' H H' → vw δ.s H' a = some (.lst us) → RpA K G' ds us → Q (.ref a) H'
def tItl (t : TD) : TDL := fun δ P EP => t δ (fun d => match d with
  | .lst xs => P xs
  | _ => False) EP
def tOwn (i : Nat) : TDL := fun δ P _ => match δ.sl[i]? with
  | some (.ow xs) => P xs
  | some (.d (.lst xs)) => P xs
  | _ => False
section
variable {X : Cx} {K : PySem.W.Frag} {T : Tbl} {E : XK} {e : Expr} {pos : Pos} {t : TD} {tl : TDL}
theorem pd_FL (h : PE X e (lF K T E t)) : PE X e (lL K T E (tItl t)) :=
  pe_imp h fun σ H Q ⟨δ, G0, H0, G, P, EP, L, ht, k⟩ => ⟨δ, G0, H0, G, _, EP, L, ht, fun d hd v H' G' x r => by
    cases d with
    | lst xs =>
      obtain ⟨a, us, e, h1, h2⟩ := r
      rw [e]
      exact k xs hd a us H' G' x (x.gv _ _ h1) h2
    | _ => exact hd.elim⟩
theorem pd_NL (h : PE X e (lN K T E tl)) : PE X e (lL K T E tl) :=
  pe_imp h fun σ H Q ⟨δ, G0, H0, G, P, EP, L, ht, k⟩ => ⟨δ, G0, H0, G, _, EP, L, ht, fun ds hd a us H' G' x h1 h2 h3 r => by
    have sa : δ.s ≠ some a := fun z => by
      obtain ⟨p, q, e, _⟩ := L.rep.src a z
      rw [h1] at e
      cases e
    exact k ds hd a us H' G' x (vw_at h3 sa fun ps z => by cases z) r⟩
theorem pd_o (i : Nat) {x : Str} (hN : X.N[i]? = some x := by rfl) (hv : Vis X.env.scope x := by first | exact Or.inl rfl | exact Or.inr (Or.inl rfl) | exact Or.inr (Or.inr rfl)) (hd : (x == ("__debug__" : Str)) = false := by decide)
    (hcd : (x == ("__classdict__" : Str)) = false := by decide) : PE X (.Name x pos) (lL K T E (tOwn i)) :=
  pe_imp (pe_var hN hv hd hcd) fun σ H Q ⟨δ, G0, H0, G, P, EP, L, ht, k⟩ => by
    unfold tOwn at ht
    cases e : δ.sl[i]? with
    | none =>
      rw [e] at ht
      exact ht.elim
    | some o =>
      rw [e] at ht
      cases o with
      | d y =>
        cases y with
        | lst xs =>
          obtain ⟨v, h1, a, us, e2, h2, h3⟩ := rep_d L.rep e
          exact ⟨v, h1, by rw [e2]; exact k xs ht a us H G (.refl L.rep.gv) (L.rep.gv _ _ h2) h3⟩
        | _ => exact ht.elim
      | ow xs =>
        obtain ⟨v, h1, a, us, e2, q1, q2, q3, q4, q5⟩ := L.rep.sl i _ e
        exact ⟨.ref a, by rw [h1, e2], k xs ht a us H G (.refl L.rep.gv) (vw_at q4 q2 fun ps z => by cases z) q5⟩
      | _ => exact ht.elim
end
/-! ### isinstance of a built-in type -/
inductive Ty where
  | non | bl | int | str | tup | lst | dct
def Ty.nm : Ty → String
  | .non => "NoneType"
  | .bl => "bool"
  | .int => "int"
  | .str => "str"
  | .tup => "tuple"
  | .lst => "list"
  | .dct => "dict"
def D.ty : D → Option Ty
  | .non => some .non
  | .bl _ => some .bl
  | .int _ => some .int
  | .str _ => some .str
  | .tup _ => some .tup
  | .lst _ => some .lst
  | .dK _ _ => some .dct
  | .dT _ _ => some .dct
  | .ref _ => none
  | .kl _ => none
  | .kt _ => some .tup
def isTy : Ty → Ty → Bool
  | .non, .non => true
  | .bl, .bl => true
  | .bl, .int => true
  | .int, .int => true
  | .str, .str => true
  | .tup, .tup => true
  | .lst, .lst => true
  | .dct, .dct => true
  | _, _ => false
def Ty.asked : Ty → Bool
  | .non => false
  | .dct => false
  | _ => true
def tIs (k : Ty) (t : TD) : TD := fun δ P EP => t δ (fun d => match d.ty with
  | some a => P (.bl (isTy a k))
  | none => False) EP
section
variable {K : PySem.W.Frag} {s : Option Addr} {H : Hp}
theorem tyX_of {d : D} {v : V} {a : Ty} (r : Rp K (vw s H) d v) (h : d.ty = some a) : TyX K H v (.type a.nm) := by
  cases d with
  | non =>
    cases h
    rw [show v = _ from r]
    exact .base .non
  | bl b =>
    cases h
    rw [show v = _ from r]
    exact .base (.bl b)
  | int b =>
    cases h
    rw [show v = _ from r]
    exact .base (.int b)
  | str b =>
    cases h
    rw [show v = _ from r]
    exact .base (.str b)
  | ref b => cases h
  | kl ds => cases h
  | kt ds =>
    cases h
    obtain ⟨a, us, e, h1, _⟩ := r
    rw [e]
    rcases sqT_vw h1 with (z | ⟨o, z⟩) | ⟨o, its, n, z1, z2, _⟩
    · exact .base (.tup z)
    · exact .fTuple z
    · exact .kTuple z1 z2
  | tup ds =>
    cases h
    obtain ⟨a, us, e, h1, _⟩ := r
    rw [e]
    exact .base (.tup (vw_sub _ _ h1))
  | lst ds =>
    cases h
    obtain ⟨a, us, e, h1, _⟩ := r
    rw [e]
    exact .base (.lst (vw_sub _ _ h1))
  | dK ks ds =>
    cases h
    obtain ⟨a, us, e, h1, _⟩ := r
    rw [e]
    exact .base (.dK (vw_sub _ _ h1))
  | dT ks ds =>
    cases h
    obtain ⟨a, us, e, h1, _⟩ := r
    rw [e]
    exact .base (.dT (vw_sub _ _ h1))
end
theorem kitB_ok : ∀ (a b : Ty), b.asked = true → kitB a.nm b.nm = some (isTy a b) := by
  intro a b h
  cases b <;> first
    | (cases h; done)
    | (cases a <;> decide +kernel)
section
variable {X : Cx} {T : Tbl} {E : XK} {e : Expr} {p p2 pos : Pos} {t : TD} {Tn : Str}
theorem pd_isi (tn : Ty) (hm : X.mg "isinstance" = none) (hmT : X.mg Tn = none) (hv : bootBuiltins Tn = some (.type tn.nm)) (he : PE X e (lR X.K T E t)) (hT : tn.asked = true := by rfl) (hg : Gl X "isinstance" := by rfl) (hgT : Gl X Tn := by rfl) (hn : Tn ≠ "__name__" := by decide)
    (hdb : (Tn == ("__debug__" : Str)) = false := by decide) (hs : starEach [e, Expr.Name Tn p2] X.env = (false, eval e X.env) :: starEach [Expr.Name Tn p2] X.env := by rfl) (hs2 : starEach [Expr.Name Tn p2] X.env = (false, eval (Expr.Name Tn p2) X.env) :: starEach [] X.env := by rfl) (hpl : (backTo pos (starEach [Expr.Name Tn p2] X.env)).any (·.1) = false := by rfl) :
    PE X (.Call (.Name "isinstance" p) [e, .Name Tn p2] [] pos) (lF X.K T E (tIs tn t)) :=
  pe_imp (pe_callB call_isi hg hm (by decide +kernel) (pa_cons he (pa_cons (pe_bltn (v := .ty tn.nm) hgT hmT hv rfl hn hdb) pa_nil hs2) hs) (by decide) (by decide) hs hpl) fun σ H Q ⟨δ, G0, H0, G, P, EP, L, ht, k⟩ => ⟨δ, G0, H0, G, _, EP, L, ht, fun d hd v H1 g r => by
    cases q : d.ty with
    | none =>
      rw [q] at hd
      exact hd.elim
    | some a =>
      rw [q] at hd
      exact ⟨v, .ty tn.nm, .type a.nm, .type tn.nm, isTy a tn, rfl, .ty tn.nm, tyX_of r q, kit_ty (kitB_ok a tn hT), k _ hd _ H1 G (.of_gr L.rep.gv g) rfl⟩⟩
end
/-! ### in -/
def D.flat : D → Option V
  | .non => some .non
  | .bl b => some (.bl b)
  | .int i => some (.int i)
  | .str x => some (.str x)
  | _ => none
def flatsOf : List D → Option (List V)
  | [] => some []
  | d :: ds => match d.flat, flatsOf ds with
    | some v, some vs => some (v :: vs)
    | _, _ => none
theorem Rp.flat {K : PySem.W.Frag} {G : Hp} {d : D} {v u : V} (r : Rp K G d v) (h : d.flat = some u) : v = u ∧ flatV u = true := by
  cases d <;> first
    | (cases h; exact ⟨r, rfl⟩)
    | cases h
theorem RpA.flats {K : PySem.W.Frag} {G : Hp} : ∀ {ds : List D} {vs us : List V}, RpA K G ds vs → flatsOf ds = some us → vs = us ∧ us.all flatV = true
  | [], vs, us, h, e => by
    cases e
    exact ⟨h, rfl⟩
  | d :: ds, vs, us, ⟨x, r, e1, h1, h2⟩, e => by
    unfold flatsOf at e
    cases q1 : d.flat with
    | none =>
      rw [q1] at e
      cases e
    | some v =>
      rw [q1] at e
      cases q2 : flatsOf ds with
      | none =>
        rw [q2] at e
        cases e
      | some ws =>
        rw [q2] at e
        cases e
        obtain ⟨a1, a2⟩ := h1.flat q1
        obtain ⟨b1, b2⟩ := RpA.flats h2 q2
        rw [e1, a1, b1]
        exact ⟨rfl, by rw [List.all_cons, a2, b2] <;> rfl⟩
def itemsX : D → Option (List D)
  | .lst xs => some xs
  | .tup xs => some xs
  | .kl xs => some xs
  | .kt xs => some xs
  | _ => none
def dIn (neg : Bool) : D → D → (D → Prop) → Prop := fun x y P => match x.flat, (itemsX y).bind flatsOf with
  | some v, some vs => P (.bl (if neg then !inV v vs else inV v vs))
  | _, _ => False
theorem sop_in {K : PySem.W.Frag} {neg : Bool} : Sop K (rIn K neg) (dIn neg) := by
  intro s H dx dy x y P Q rx ry h k
  unfold dIn at h
  cases q1 : dx.flat with
  | none =>
    rw [q1] at h
    exact h.elim
  | some v =>
    cases q2 : (itemsX dy).bind flatsOf with
    | none =>
      rw [q1, q2] at h
      exact h.elim
    | some vs =>
      rw [q1, q2] at h
      obtain ⟨e1, f1⟩ := rx.flat q1
      obtain ⟨xs, q3, q4⟩ := Option.bind_eq_some_iff.mp q2
      rw [e1]
      cases dy with
      | lst ys =>
        cases q3
        obtain ⟨a, us, e, h1, h2⟩ := ry
        obtain ⟨e2, f2⟩ := h2.flats q4
        rw [e2] at h1
        exact ⟨a, vs, e, .inl (.of (vw_sub _ _ h1)), f1, f2, k _ _ h fun _ => rfl⟩
      | tup ys =>
        cases q3
        obtain ⟨a, us, e, h1, h2⟩ := ry
        obtain ⟨e2, f2⟩ := h2.flats q4
        rw [e2] at h1
        exact ⟨a, vs, e, .inr (.of (vw_sub _ _ h1)), f1, f2, k _ _ h fun _ => rfl⟩
      | kl ys =>
        cases q3
        obtain ⟨a, us, e, h1, h2⟩ := ry
        obtain ⟨e2, f2⟩ := h2.flats q4
        rw [e2] at h1
        exact ⟨a, vs, e, .inl (sqL_vw h1), f1, f2, k _ _ h fun _ => rfl⟩
      | kt ys =>
        cases q3
        obtain ⟨a, us, e, h1, h2⟩ := ry
        obtain ⟨e2, f2⟩ := h2.flats q4
        rw [e2] at h1
        exact ⟨a, vs, e, .inr (sqT_vw h1), f1, f2, k _ _ h fun _ => rfl⟩
      | _ => cases q3
section
variable {X : Cx} {T : Tbl} {E : XK} {a b : Expr} {pos : Pos} {ta tb : TD}
theorem pd_in (ha : PE X a (lR X.K T E ta)) (hb : PE X b (lR X.K T E tb)) (hm : behindInMarks .In b = false := by with_unfolding_all rfl) : PE X (.Compare a [.In] [b] pos) (lF X.K T E (t2 (dIn false) ta tb)) := pd_cmp op_in_seq sop_in ha hb hm
theorem pd_nin (ha : PE X a (lR X.K T E ta)) (hb : PE X b (lR X.K T E tb)) (hm : behindInMarks .NotIn b = false := by with_unfolding_all rfl) : PE X (.Compare a [.NotIn] [b] pos) (lF X.K T E (t2 (dIn true) ta tb)) := pd_cmp op_notIn_seq sop_in ha hb hm
theorem pd_tin (ha : PE X a (lR X.K T E ta)) (hb : PE X b (lR X.K T E tb)) (hm : behindInMarks .In b = false := by with_unfolding_all rfl) : PT X (.Compare a [.In] [b] pos) (lB X.K T E (tBl (t2 (dIn false) ta tb))) := pd_tcmp op_in_seq sop_in ha hb hm
theorem pd_tnin (ha : PE X a (lR X.K T E ta)) (hb : PE X b (lR X.K T E tb)) (hm : behindInMarks .NotIn b = false := by with_unfolding_all rfl) : PT X (.Compare a [.NotIn] [b] pos) (lB X.K T E (tBl (t2 (dIn true) ta tb))) := pd_tcmp op_notIn_seq sop_in ha hb hm
end
/-! ### subscripts -/
theorem RpA.atI {K : PySem.W.Frag} {G : Hp} {ds : List D} {vs : List V} {i : Int} {d : D} (r : RpA K G ds vs) (h : L2.atI ds i = some d) : ∃ v, L2.atI vs i = some v ∧ Rp K G d v := by
  unfold L2.atI at h ⊢
  obtain ⟨j, h1, h2⟩ := Option.bind_eq_some_iff.mp h
  obtain ⟨v, h3, h4⟩ := r.get h2
  exact ⟨v, by rw [r.len, h1]; exact h3, h4⟩
def dIx (x i : D) (P : D → Prop) : Prop := match itemsX x, i with
  | some xs, .int j => (match L2.atI xs j with
    | some d => P d
    | none => False)
  | _, _ => False
def tIx (ta tb : TD) : TD := fun δ P EP => ta δ (fun x => tb δ (fun i => dIx x i P) EP) EP
section
variable {X : Cx} {T : Tbl} {E : XK} {a b : Expr} {pos : Pos} {ta tb : TD} {K : PySem.W.Frag}
theorem ix_run {G H : Hp} {dx dy : D} {x y : V} {P : D → Prop} {Q : VK} {gv : Same G H} (rx : Rp K G dx x) (ry : Rp K H dy y) (h : dIx dx dy P) (k : ∀ d v, P d → Rp K G d v → Q v H) : rIxL K x y H Q ∨ rIxT K x y H Q := by
  unfold dIx at h
  cases q : itemsX dx with
  | none =>
    rw [q] at h
    exact h.elim
  | some xs =>
    rw [q] at h
    cases dy with
    | int j =>
      have h : (match L2.atI xs j with | some d => P d | none => False) := h
      cases q2 : L2.atI xs j with
      | none =>
        rw [q2] at h
        exact h.elim
      | some d =>
        rw [q2] at h
        cases dx with
        | lst ys =>
          cases q
          obtain ⟨p, us, e, h1, h2⟩ := rx
          obtain ⟨v, h3, h4⟩ := h2.atI q2
          exact .inl ⟨p, us, j, v, e, ry, .of (gv _ _ h1), h3, k d v h h4⟩
        | kl ys =>
          cases q
          obtain ⟨p, us, e, h1, h2⟩ := rx
          obtain ⟨v, h3, h4⟩ := h2.atI q2
          exact .inl ⟨p, us, j, v, e, ry, gv.seq h1, h3, k d v h h4⟩
        | kt ys =>
          cases q
          obtain ⟨p, us, e, h1, h2⟩ := rx
          obtain ⟨v, h3, h4⟩ := h2.atI q2
          exact .inr ⟨p, us, j, v, e, ry, same_seqT gv h1, h3, k d v h h4⟩
        | tup ys =>
          cases q
          obtain ⟨p, us, e, h1, h2⟩ := rx
          obtain ⟨v, h3, h4⟩ := h2.atI q2
          exact .inr ⟨p, us, j, v, e, ry, SqT.of (gv _ _ h1), h3, k d v h h4⟩
        | _ => cases q
    | _ => exact h.elim
theorem pd_ix (ha : PE X a (lF X.K T E ta)) (hb : PE X b (lR X.K T E tb)) (hs : PlainIx b := by intro _ _; rfl) : PE X (.Subscript a b pos) (lF X.K T E (tIx ta tb)) :=
  pe_imp (pe_ix (ix_list.or ix_tup) ha hb hs) fun σ H Q ⟨δ, G0, H0, G, P, EP, L, ht, k⟩ => ⟨δ, G0, H0, G, _, EP, L, ht, fun dx hx x H1 G1 x1 r1 => ⟨δ, G0, H0, G1, _, EP, L.stp x1, hx, fun dy hy y H2 g2 r2 =>
    ix_run (G := G1) (gv := fun b o e => vw_sub _ _ (g2.ex _ _ (x1.gv b o e))) r1 r2.at hy fun d v hd r => k d hd v H2 G1 (x1.trans (.of_gr x1.gv g2)) r⟩⟩
theorem pd_ixR (ha : PE X a (lR X.K T E ta)) (hb : PE X b (lR X.K T E tb)) (hs : PlainIx b := by intro _ _; rfl) : PE X (.Subscript a b pos) (lR X.K T E (tIx ta tb)) :=
  pe_imp (pe_ix (ix_list.or ix_tup) ha hb hs) fun σ H Q ⟨δ, G0, H0, G, P, EP, L, ht, k⟩ => ⟨δ, G0, H0, G, _, EP, L, ht, fun dx hx x H1 g1 r1 => ⟨δ, G0, H0, G, _, EP, L.gr g1, hx, fun dy hy y H2 g2 r2 =>
    ix_run (G := vw δ.s H2) (gv := vw_sub) (r1.mono g2.ex) r2.at hy fun d v hd r => k d hd v H2 (g1.trans g2) r⟩⟩
end
/-! ### slices -/
abbrev TDO := DE → (Option Int → Prop) → (Addr → Prop) → Prop
def lO (K : PySem.W.Frag) (T : Tbl) (E : XK) (t : TDO) : TO := fun σ H Q => ∃ δ G0 H0 G P EP, Lv K T E G0 H0 G H σ δ EP ∧ t δ P EP ∧ ∀ o, P o → ∀ H', Gr T δ.s H H' → Q o H'
def tO0 : TDO := fun _ P _ => P none
def tO1 (t : TD) : TDO := fun δ P EP => t δ (fun d => match d with
  | .int i => P (some i)
  | _ => False) EP
def cutD (xs : List D) (lo hi : Option Int) : List D := (xs.drop (HT.sIx xs.length 0 lo)).take (HT.sIx xs.length xs.length hi - HT.sIx xs.length 0 lo)
theorem RpA.cut {K : PySem.W.Frag} {G : Hp} {ds : List D} {vs : List V} (r : RpA K G ds vs) (lo hi : Option Int) : RpA K G (cutD ds lo hi) (cutV vs lo hi) := by
  unfold cutD cutV
  rw [r.len]
  exact (r.drop _).take _
def tSlL (te : TDL) (tl th : TDO) : TDL := fun δ P EP => te δ (fun xs => tl δ (fun lo => th δ (fun hi => P (cutD xs lo hi)) EP) EP) EP
def tSlT (te : TD) (tl th : TDO) : TD := fun δ P EP => te δ (fun x => tl δ (fun lo => th δ (fun hi => match x with
  | .tup xs => P (.tup (cutD xs lo hi))
  | _ => False) EP) EP) EP
section
variable {X : Cx} {T : Tbl} {E : XK} {e : Expr} {lo hi : Option Expr} {p2 pos : Pos} {K : PySem.W.Frag} {t : TD} {te : TDL} {tl th : TDO}
theorem pd_o0 : PO X none (lO K T E tO0) := ⟨fun pins s σ H Q I ⟨δ, G0, H0, G, P, EP, L, ht, k⟩ => po_none.run pins s σ H Q I (k none ht H .refl)⟩
theorem pd_o1 (h : PE X e (lR K T E t)) : PO X (some e) (lO K T E (tO1 t)) := ⟨fun pins s σ H Q I ⟨δ, G0, H0, G, P, EP, L, ht, k⟩ => (po_some h).run pins s σ H Q I ⟨δ, G0, H0, G, _, EP, L, ht, fun d hd v H' g r => by
  cases d with
  | int i => exact ⟨i, r, k _ hd H' g⟩
  | _ => exact hd.elim⟩⟩
theorem pd_slL (he : PE X e (lL X.K T E te)) (hl : PO X lo (lO X.K T E tl)) (hu : PO X hi (lO X.K T E th)) : PE X (.Subscript e (.Slice lo hi none p2) pos) (lN X.K T E (tSlL te tl th)) :=
  pe_imp (pe_slice sl_list he hl hu) fun σ H Q ⟨δ, G0, H0, G, P, EP, L, ht, k⟩ => ⟨δ, G0, H0, G, _, EP, L, ht, fun ds hd a us H1 G1 x1 e1 r1 => ⟨δ, G0, H0, G1, _, EP, L.stp x1, hd, fun l hl H2 g2 => ⟨δ, G0, H0, G1, _, EP, (L.stp x1).gr g2, hl, fun u hu H3 g3 =>
    ⟨a, us, rfl, .of (vw_sub _ _ (g3.ex _ _ (g2.ex _ _ e1))), fun p hp => by
      have R3 := (((L.stp x1).gr g2).gr g3).rep
      have gp : G1 p = none := by
        cases z : G1 p with
        | none => rfl
        | some u =>
          have z2 := (vw_of (R3.gv _ _ z)).1
          rw [hp] at z2
          cases z2
      have g23 := g2.trans g3
      exact k _ hu p _ _ G1 (x1.trans ((Stp.of_gr x1.gv g23).trans (.of_gr R3.gv (.new hp)))) ((x1.gr.trans g23).none_of hp) gp upd_same (r1.cut l u)⟩⟩⟩⟩
theorem pd_slT (he : PE X e (lF X.K T E t)) (hl : PO X lo (lO X.K T E tl)) (hu : PO X hi (lO X.K T E th)) : PE X (.Subscript e (.Slice lo hi none p2) pos) (lF X.K T E (tSlT t tl th)) :=
  pe_imp (pe_slice sl_tupA he hl hu) fun σ H Q ⟨δ, G0, H0, G, P, EP, L, ht, k⟩ => ⟨δ, G0, H0, G, _, EP, L, ht, fun d hd v H1 G1 x1 r1 => ⟨δ, G0, H0, G1, _, EP, L.stp x1, hd, fun l hl H2 g2 => ⟨δ, G0, H0, G1, _, EP, (L.stp x1).gr g2, hl, fun u hu H3 g3 => by
    cases d with
    | tup xs =>
      obtain ⟨a, us, e, h1, h2⟩ := r1
      have R3 := (((L.stp x1).gr g2).gr g3).rep
      have x3 : Stp T δ.s G G1 H H3 := x1.trans (.of_gr x1.gv (g2.trans g3))
      refine ⟨a, us, e, .of (vw_sub _ _ (R3.gv _ _ h1)), fun hw => ?_, fun hw p hp => ?_⟩
      · have ec : cutD xs l u = xs := by
          unfold cutD
          rw [← h2.len, hw.1, hw.2, List.drop_zero, Nat.sub_zero, h2.len, List.take_length]
        refine k _ hu (.ref a) H3 G1 x3 ⟨a, us, rfl, h1, ?_⟩
        rw [ec]
        exact h2
      · have x4 := R3.fresh (G := G1) (o := .tup (cutV us l u)) hp fun ps z => by cases z
        exact k _ hu (.ref p) _ _ (x3.trans x4) ⟨p, _, rfl, upd_same, (h2.cut l u).mono x4.gg⟩
    | _ => exact hu.elim⟩⟩⟩
def tRev (t : TDL) : TDL := fun δ P EP => t δ (fun xs => P xs.reverse) EP
/-- xs[::-1] of a list -/
theorem pd_rev {k : Nat} {p1 p3 : Pos} (he : PE X e (lL X.K T E te)) : PE X (.Subscript e (.Slice none none (some (.UnaryOp .USub (.Constant (.int 1) k p1) p2)) p3) pos) (lN X.K T E (tRev te)) :=
  pe_imp (pe_revL he) fun σ H Q ⟨δ, G0, H0, G, P, EP, L, ht, k⟩ => ⟨δ, G0, H0, G, _, EP, L, ht, fun ds hd a us H1 G1 x1 e1 r1 => ⟨a, us, rfl, .of (vw_sub _ _ e1), fun p hp => by
    have R1 := (L.stp x1).rep
    have gp : G1 p = none := by
      cases z : G1 p with
      | none => rfl
      | some u =>
        have z2 := (vw_of (R1.gv _ _ z)).1
        rw [hp] at z2
        cases z2
    exact k _ hd p _ _ G1 (x1.trans (.of_gr R1.gv (.new hp))) (x1.gr.none_of hp) gp upd_same r1.rev⟩⟩
end
/-! ### +, * of lists and tuples; list(), tuple() -/
def szOk (n : Nat) (p : Prop) : Prop := match Nat.ble n 100000 with
  | true => p
  | false => False
theorem szOk.get {n : Nat} {p : Prop} (h : szOk n p) : n ≤ sizeLine ∧ p := by
  unfold szOk at h
  cases q : Nat.ble n 100000 with
  | true =>
    rw [q] at h
    exact ⟨size_line q, h⟩
  | false =>
    rw [q] at h
    exact h.elim
theorem szOk.mk {n : Nat} {p : Prop} (h : n ≤ 100000) (q : p) : szOk n p := by
  unfold szOk
  rw [Nat.ble_eq_true_of_le h]
  exact q
def tCatL (ta tb : TDL) : TDL := fun δ P EP => ta δ (fun xs => tb δ (fun ys => szOk (xs.length + ys.length) (P (xs ++ ys))) EP) EP
def tRepL (ta : TDL) (tb : TD) : TDL := fun δ P EP => ta δ (fun xs => tb δ (fun d => match d with
  | .int k => (-(2 ^ 63) ≤ k ∧ k < 2 ^ 63) ∧ szOk (xs.length * k.toNat) (P (List.replicate k.toNat xs).flatten)
  | _ => False) EP) EP
def tCatT (ta tb : TD) : TD := fun δ P EP => ta δ (fun x => tb δ (fun y => match x, y with
  | .tup xs, .tup ys => szOk (xs.length + ys.length) (P (.tup (xs ++ ys)))
  | _, _ => False) EP) EP
section
variable {X : Cx} {T : Tbl} {E : XK} {a b : Expr} {pos : Pos} {K : PySem.W.Frag} {ta tb : TDL} {t u : TD}
theorem RpA.rep {G : Hp} {ds : List D} {vs : List V} (r : RpA K G ds vs) : ∀ n : Nat, RpA K G (List.replicate n ds).flatten (List.replicate n vs).flatten
  | 0 => rfl
  | n + 1 => by
    rw [List.replicate_succ, List.replicate_succ, List.flatten_cons, List.flatten_cons]
    exact r.app (RpA.rep r n)
theorem Rep.gnone {T : Tbl} {G0 H0 G H : Hp} {σ : L2.St} {δ : DE} (R : Rep K T G0 H0 G H σ δ) {p : Addr} (hp : H p = none) : G p = none := by
  cases z : G p with
  | none => rfl
  | some u =>
    have z2 := (vw_of (R.gv _ _ z)).1
    rw [hp] at z2
    cases z2
theorem pd_catL (ha : PE X a (lL X.K T E ta)) (hb : PE X b (lL X.K T E tb)) : PE X (.BinOp a .Add b pos) (lN X.K T E (tCatL ta tb)) :=
  pe_imp (pe_op op_cat ha hb) fun σ H Q ⟨δ, G0, H0, G, P, EP, L, ht, k⟩ => ⟨δ, G0, H0, G, _, EP, L, ht, fun xs hx l us H1 G1 x1 e1 r1 => ⟨δ, G0, H0, G1, _, EP, L.stp x1, hx, fun ys hy m ws H2 G2 x2 e2 r2 => by
    obtain ⟨z1, z2⟩ := hy.get
    have R2 := ((L.stp x1).stp x2).rep
    exact ⟨l, m, us, ws, rfl, rfl, vw_sub _ _ (x2.gr.ex _ _ e1), vw_sub _ _ e2, by rw [r1.len, r2.len]; exact z1, fun p hp =>
      k _ z2 p _ _ G2 ((x1.trans x2).trans (.of_gr R2.gv (.new hp))) ((x1.gr.trans x2.gr).none_of hp) (R2.gnone hp) upd_same ((r1.mono x2.gg).app r2)⟩⟩⟩
theorem pd_repL (ha : PE X a (lL X.K T E ta)) (hb : PE X b (lR X.K T E u)) : PE X (.BinOp a .Mult b pos) (lN X.K T E (tRepL ta u)) :=
  pe_imp (pe_op op_rep ha hb) fun σ H Q ⟨δ, G0, H0, G, P, EP, L, ht, k⟩ => ⟨δ, G0, H0, G, _, EP, L, ht, fun xs hx l us H1 G1 x1 e1 r1 => ⟨δ, G0, H0, G1, _, EP, L.stp x1, hx, fun d hd v H2 g2 r2 => by
    cases d with
    | int j =>
      obtain ⟨⟨b1, b2⟩, h3⟩ := hd
      obtain ⟨z1, z2⟩ := h3.get
      have R2 := ((L.stp x1).gr g2).rep
      exact ⟨l, j, us, rfl, r2, vw_sub _ _ (g2.ex _ _ e1), b1, b2, by rw [r1.len]; exact z1, fun p hp =>
        k _ z2 p _ _ G1 ((x1.trans (.of_gr x1.gv g2)).trans (.of_gr R2.gv (.new hp))) ((x1.gr.trans g2).none_of hp) (R2.gnone hp) upd_same (r1.rep _)⟩
    | _ => exact hd.elim⟩⟩
theorem pd_catT (ha : PE X a (lF X.K T E t)) (hb : PE X b (lF X.K T E u)) : PE X (.BinOp a .Add b pos) (lF X.K T E (tCatT t u)) :=
  pe_imp (pe_op op_catA ha hb) fun σ H Q ⟨δ, G0, H0, G, P, EP, L, ht, k⟩ => ⟨δ, G0, H0, G, _, EP, L, ht, fun dx hx x H1 G1 x1 r1 => ⟨δ, G0, H0, G1, _, EP, L.stp x1, hx, fun dy hy y H2 G2 x2 r2 => by
    cases dx with
    | tup xs =>
      cases dy with
      | tup ys =>
        obtain ⟨z1, z2⟩ := hy.get
        obtain ⟨p, us, e1, h1, q1⟩ := r1.mono x2.gg
        obtain ⟨m, ws, e2, h2, q2⟩ := r2
        have R2 := ((L.stp x1).stp x2).rep
        refine ⟨p, m, us, ws, e1, e2, .of (vw_sub _ _ (R2.gv _ _ h1)), .of (vw_sub _ _ (R2.gv _ _ h2)), by rw [q1.len, q2.len]; exact z1, fun n1 => ?_, fun n1 n2 => ?_, fun n1 n2 q hq => ?_⟩
        · have e : xs = [] := List.eq_nil_of_length_eq_zero (by rw [← q1.len, n1] <;> rfl)
          subst e
          exact k _ z2 _ H2 G2 (x1.trans x2) ⟨m, ws, rfl, h2, q2⟩
        · have e : ys = [] := List.eq_nil_of_length_eq_zero (by rw [← q2.len, n2] <;> rfl)
          subst e
          rw [List.append_nil] at z2
          exact k _ z2 _ H2 G2 (x1.trans x2) ⟨p, us, rfl, h1, q1⟩
        · have x3 := R2.fresh (G := G2) (o := .tup (us ++ ws)) hq fun ps z => by cases z
          exact k _ z2 _ _ _ ((x1.trans x2).trans x3) ⟨q, _, rfl, upd_same, (q1.app q2).mono x3.gg⟩
      | _ => exact hy.elim
    | _ => exact hy.elim⟩⟩
/-- t * k of a tuple, k at least 2 -/
def tRepT (ta tb : TD) : TD := fun δ P EP => ta δ (fun x => tb δ (fun y => match x, y with
  | .tup xs, .int k => (xs ≠ [] ∧ 2 ≤ k ∧ k ≤ 1000 ∧ xs.length ≤ 1000) ∧ P (.tup (List.replicate k.toNat xs).flatten)
  | _, _ => False) EP) EP
theorem pd_repT (ha : PE X a (lF X.K T E t)) (hb : PE X b (lR X.K T E u)) : PE X (.BinOp a .Mult b pos) (lF X.K T E (tRepT t u)) :=
  pe_imp (pe_op op_repT ha hb) fun σ H Q ⟨δ, G0, H0, G, P, EP, L, ht, k⟩ => ⟨δ, G0, H0, G, _, EP, L, ht, fun dx hx x H1 G1 x1 r1 => ⟨δ, G0, H0, G1, _, EP, L.stp x1, hx, fun dy hy y H2 g2 r2 => by
    cases dx with
    | tup xs =>
      cases dy with
      | int j =>
        obtain ⟨⟨b1, b2, b3, b4⟩, z2⟩ := hy
        obtain ⟨p, us, e1, h1, q1⟩ := r1
        have R2 := ((L.stp x1).gr g2).rep
        refine ⟨p, j, us, e1, r2, .of (vw_sub _ _ (R2.gv _ _ h1)), fun z => b1 (List.eq_nil_of_length_eq_zero (by rw [← q1.len, z] <;> rfl)), b2, b3, by rw [q1.len]; exact b4, fun q hq => ?_⟩
        have x3 := R2.fresh (G := G1) (o := .tup (List.replicate j.toNat us).flatten) hq fun ps z => by cases z
        exact k _ z2 _ _ _ ((x1.trans (.of_gr x1.gv g2)).trans x3) ⟨q, _, rfl, upd_same, (q1.rep _).mono x3.gg⟩
      | _ => exact hy.elim
    | _ => exact hy.elim⟩⟩
/-- one argument, the frame's own list -/
def lL1 (K : PySem.W.Frag) (T : Tbl) (E : XK) (t : TDL) : TA := tCons (lL K T E t) tNil
theorem pd_l1 (h : PE X a (lL K T E ta)) (hs : starEach [a] X.env = (false, eval a X.env) :: starEach [] X.env := by rfl) : PA X [a] (lL1 K T E ta) := pa_cons h pa_nil hs
/-- list(xs) of a list -/
theorem pd_listL {p : Pos} (hm : X.mg "list" = none) (h : PE X a (lL X.K T E ta)) (hg : Gl X "list" := by rfl) (hs : starEach [a] X.env = (false, eval a X.env) :: starEach [] X.env := by rfl) (hpl : (backTo pos (starEach [] X.env)).any (·.1) = false := by rfl) :
    PE X (.Call (.Name "list" p) [a] [] pos) (lN X.K T E ta) :=
  pe_imp (pe_callTy call_list_of hg hm (by decide +kernel) (pd_l1 h hs) (by decide) (by decide) hs hpl) fun σ H Q ⟨δ, G0, H0, G, P, EP, L, ht, k⟩ => ⟨δ, G0, H0, G, _, EP, L, ht, fun ds hd l us H1 G1 x1 e1 r1 => ⟨l, us, rfl, .inl (.of (vw_sub _ _ e1)), fun p hp =>
    k ds hd p _ _ G1 (x1.trans (.of_gr x1.gv (.new hp))) (x1.gr.none_of hp) ((L.stp x1).rep.gnone hp) upd_same r1⟩⟩
def tTupI (t : TD) : TDL := fun δ P EP => t δ (fun d => match d with
  | .tup xs => P xs
  | _ => False) EP
/-- list(t) of a tuple -/
theorem pd_listT {p : Pos} (hm : X.mg "list" = none) (h : PE X a (lF X.K T E t)) (hg : Gl X "list" := by rfl) (hs : starEach [a] X.env = (false, eval a X.env) :: starEach [] X.env := by rfl) (hpl : (backTo pos (starEach [] X.env)).any (·.1) = false := by rfl) :
    PE X (.Call (.Name "list" p) [a] [] pos) (lN X.K T E (tTupI t)) :=
  pe_imp (pe_callTy call_list_of hg hm (by decide +kernel) (pa_cons h pa_nil hs) (by decide) (by decide) hs hpl) fun σ H Q ⟨δ, G0, H0, G, P, EP, L, ht, k⟩ => ⟨δ, G0, H0, G, _, EP, L, ht, fun d hd v H1 G1 x1 r1 => by
    cases d with
    | tup xs =>
      obtain ⟨l, us, e, h1, h2⟩ := r1
      exact ⟨l, us, by rw [e], .inr (.of (vw_sub _ _ (x1.gv _ _ h1))), fun p hp =>
        k xs hd p _ _ G1 (x1.trans (.of_gr x1.gv (.new hp))) (x1.gr.none_of hp) ((L.stp x1).rep.gnone hp) upd_same h2⟩
    | _ => exact hd.elim⟩
/-- tuple(xs) of a list -/
def tTupL (t : TDL) : TD := fun δ P EP => t δ (fun xs => P (.tup xs)) EP
theorem pd_tupL {p : Pos} (hm : X.mg "tuple" = none) (h : PE X a (lL X.K T E ta)) (hg : Gl X "tuple" := by rfl) (hs : starEach [a] X.env = (false, eval a X.env) :: starEach [] X.env := by rfl) (hpl : (backTo pos (starEach [] X.env)).any (·.1) = false := by rfl) :
    PE X (.Call (.Name "tuple" p) [a] [] pos) (lF X.K T E (tTupL ta)) :=
  pe_imp (pe_callTy call_tuple_of hg hm (by decide +kernel) (pd_l1 h hs) (by decide) (by decide) hs hpl) fun σ H Q ⟨δ, G0, H0, G, P, EP, L, ht, k⟩ => ⟨δ, G0, H0, G, _, EP, L, ht, fun ds hd l us H1 G1 x1 e1 r1 => ⟨l, us, rfl, .inl ⟨.of (vw_sub _ _ e1), fun p hp => by
    have x2 := (L.stp x1).rep.fresh (G := G1) (o := .tup us) hp fun ps z => by cases z
    exact k _ hd _ _ _ (x1.trans x2) ⟨p, us, rfl, upd_same, r1.mono x2.gg⟩⟩⟩⟩
end
end Wn

set_option Elab.async false
set_option linter.all false
set_option maxRecDepth 100000
set_option maxHeartbeats 4000000
namespace Wn
open PySem L2
/-! ### promises by data -/
abbrev Fn := Option Addr → List D → (D → Prop) → (Addr → Prop) → Prop
abbrev FnL := Option Addr → List D → (List D → Prop) → (Addr → Prop) → Prop
def spD (K : PySem.W.Frag) (T : Tbl) (n : Nat) (φ : Fn) : Sp := fun vs H Q E => ∃ s G ds P EP, (∀ a, s = some a → Src a H) ∧ LamX.Tabs T H ∧ Same G (vw s H) ∧ RpA K G ds vs ∧ ds.length = n ∧ φ s ds P EP ∧
  (∀ d, P d → ∀ v H' G', Stp T s G G' H H' → Rp K G' d v → Q v H') ∧ ∀ c, EP c → ∀ H', Gr T s H H' → E (.ref c) none H'
def spN (K : PySem.W.Frag) (T : Tbl) (n : Nat) (φ : FnL) : Sp := fun vs H Q E => ∃ s G ds P EP, (∀ a, s = some a → Src a H) ∧ LamX.Tabs T H ∧ Same G (vw s H) ∧ RpA K G ds vs ∧ ds.length = n ∧ φ s ds P EP ∧
  (∀ es, P es → ∀ a us H' G', Stp T s G G' H H' → H a = none → G' a = none → H' a = some (.lst us) → RpA K G' es us → Q (.ref a) H') ∧ ∀ c, EP c → ∀ H', Gr T s H H' → E (.ref c) none H'
/-- the module's def x keeps a promise -/
structure Cl (P : Program) (w : World) (K : PySem.W.Frag) (mg : Str → Option Value) (base : Heap) (k : Nat) (x : Str) (sp : Sp) : Prop where
  ex : ∃ f fd ps, FnOk P w K mg base (L2N.CX P w) k f fd ps sp ∧ mg x = some (.ref f) ∧ PySem.W.keepIn K (.ref f) = true ∧ L2.Binds K fd ps []
def tCl (n : Nat) (φ : Fn) (t : TDL) : TD := fun δ P EP => t δ (fun ds => match Nat.beq ds.length n with
  | true => φ δ.s ds P EP
  | false => False) EP
def tClN (n : Nat) (φ : FnL) (t : TDL) : TDL := fun δ P EP => t δ (fun ds => match Nat.beq ds.length n with
  | true => φ δ.s ds P EP
  | false => False) EP
theorem pass_E0 {P : Program} {w : World} {X : Cx} (h1 : X.prog = P) (h2 : X.w = w) : Passes (L2N.CX P w) X E0 := by
  intro pins σ H s e s' I c
  obtain ⟨a, B, H', cls, d, _, _, _, _, _, _, _, q⟩ := c
  exact q.elim
section
variable {X : Cx} {K : PySem.W.Frag} {T : Tbl} {E : XK} {e : Expr} {es : List Expr} {x : Str} {p pos : Pos} {t : TDL} {n k j : Nat} {φ : Fn} {ψ : FnL}
theorem pd_cl (c : Cl X.prog X.w X.K X.mg X.base k x (spD X.K T n φ)) (hr : Room j X.A) (hk : k ≤ j) (hx : Passes (L2N.CX X.prog X.w) X E) (ha : PA X (e :: es) (lA X.K T E t)) (hg : Gl X x := by rfl) (hdb : (x == ("__debug__" : Str)) = false := by decide)
    (he : starEach (e :: es) X.env = (false, eval e X.env) :: starEach es X.env := by rfl) (hpl : (backTo pos (starEach es X.env)).any (·.1) = false := by rfl) : PE X (.Call (.Name x p) (e :: es) [] pos) (lF X.K T E (tCl n φ t)) := by
  obtain ⟨f, fd, ps, F, hm, kp, hb⟩ := c.ex
  refine pe_imp (pe_call F (hr.mono hk) hg hm kp hb .nil hx ha hdb he hpl) fun σ H Q ⟨δ, G0, H0, G, P, EP, L, ht, q⟩ => ⟨δ, G0, H0, G, _, EP, L, ht, fun ds hd vs H1 G1 x1 r1 => ?_⟩
  cases z : Nat.beq ds.length n with
  | false =>
    rw [z] at hd
    exact hd.elim
  | true =>
    rw [z] at hd
    rw [List.append_nil]
    have L1 := L.stp x1
    exact ⟨δ.s, G1, ds, P, EP, L1.rep.src, L1.rep.tab, x1.gv, r1, Nat.eq_of_beq_eq_true z, hd, fun d hd' v H' G' x2 r2 => q d hd' v H' G' (x1.trans x2) r2, fun c hc H' g => L1.ex c hc H' g⟩
/-- arguments that may be the frame's own -/
theorem pd_clR (c : Cl X.prog X.w X.K X.mg X.base k x (spD X.K T n φ)) (hr : Room j X.A) (hk : k ≤ j) (hx : Passes (L2N.CX X.prog X.w) X E) (ha : PA X (e :: es) (lAR X.K T E t)) (hg : Gl X x := by rfl) (hdb : (x == ("__debug__" : Str)) = false := by decide)
    (he : starEach (e :: es) X.env = (false, eval e X.env) :: starEach es X.env := by rfl) (hpl : (backTo pos (starEach es X.env)).any (·.1) = false := by rfl) : PE X (.Call (.Name x p) (e :: es) [] pos) (lR X.K T E (tCl n φ t)) := by
  obtain ⟨f, fd, ps, F, hm, kp, hb⟩ := c.ex
  refine pe_imp (pe_call F (hr.mono hk) hg hm kp hb .nil hx ha hdb he hpl) fun σ H Q ⟨δ, G0, H0, G, P, EP, L, ht, q⟩ => ⟨δ, G0, H0, G, _, EP, L, ht, fun ds hd vs H1 g1 r1 => ?_⟩
  cases z : Nat.beq ds.length n with
  | false =>
    rw [z] at hd
    exact hd.elim
  | true =>
    rw [z] at hd
    rw [List.append_nil]
    have L1 := L.gr g1
    exact ⟨δ.s, vw δ.s H1, ds, P, EP, L1.rep.src, L1.rep.tab, .refl _, r1, Nat.eq_of_beq_eq_true z, hd, fun d hd' v H' G' x2 r2 => q d hd' v H' (g1.trans x2.gr) (r2.mono x2.gv), fun c hc H' g => L1.ex c hc H' g⟩
theorem pd_clN (c : Cl X.prog X.w X.K X.mg X.base k x (spN X.K T n ψ)) (hr : Room j X.A) (hk : k ≤ j) (hx : Passes (L2N.CX X.prog X.w) X E) (ha : PA X (e :: es) (lA X.K T E t)) (hg : Gl X x := by rfl) (hdb : (x == ("__debug__" : Str)) = false := by decide)
    (he : starEach (e :: es) X.env = (false, eval e X.env) :: starEach es X.env := by rfl) (hpl : (backTo pos (starEach es X.env)).any (·.1) = false := by rfl) : PE X (.Call (.Name x p) (e :: es) [] pos) (lN X.K T E (tClN n ψ t)) := by
  obtain ⟨f, fd, ps, F, hm, kp, hb⟩ := c.ex
  refine pe_imp (pe_call F (hr.mono hk) hg hm kp hb .nil hx ha hdb he hpl) fun σ H Q ⟨δ, G0, H0, G, P, EP, L, ht, q⟩ => ⟨δ, G0, H0, G, _, EP, L, ht, fun ds hd vs H1 G1 x1 r1 => ?_⟩
  cases z : Nat.beq ds.length n with
  | false =>
    rw [z] at hd
    exact hd.elim
  | true =>
    rw [z] at hd
    rw [List.append_nil]
    have L1 := L.stp x1
    exact ⟨δ.s, G1, ds, P, EP, L1.rep.src, L1.rep.tab, x1.gv, r1, Nat.eq_of_beq_eq_true z, hd, fun d hd' a us H' G' x2 h1 h2 h3 r2 => q d hd' a us H' G' (x1.trans x2) (x1.gr.none_of h1) h2 h3 r2, fun c hc H' g => L1.ex c hc H' g⟩
end
/-! ### statements -/
structure DEnds where
  nx : DE → Prop
  rt : Option Addr → D → Prop
  rn : Option Addr → List D → Prop
  ex : Option Addr → Addr → Prop
  bk : DE → Prop := fun _ => False
  ct : DE → Prop := fun _ => False
abbrev TDS := DE → DEnds → Prop
structure Fits (K : PySem.W.Frag) (T : Tbl) (E : XK) (G0 H0 G : Hp) (D : Ends) (Z : DEnds) : Prop where
  nx : ∀ δ G' σ H, Same G G' → Rep K T G0 H0 G' H σ δ → Z.nx δ → D.nx σ H
  bk : ∀ δ G' σ H, Same G G' → Rep K T G0 H0 G' H σ δ → Z.bk δ → D.bk σ H
  ct : ∀ δ G' σ H, Same G G' → Rep K T G0 H0 G' H σ δ → Z.ct δ → D.ct σ H
  rt : ∀ s d, Z.rt s d → ∀ v G' H, Stp T s G0 G' H0 H → Rp K G' d v → D.rt v H
  rn : ∀ s ds, Z.rn s ds → ∀ a us G' H, Stp T s G0 G' H0 H → H0 a = none → G' a = none → s ≠ some a → H a = some (.lst us) → RpA K G' ds us → D.rt (.ref a) H
  ex : ∀ s c, Z.ex s c → ∀ H, Gr T s H0 H → E (.ref c) none H
def lS (K : PySem.W.Frag) (T : Tbl) (E : XK) (t : TDS) : TS := fun D σ H => ∃ δ G0 H0 G Z, Rep K T G0 H0 G H σ δ ∧ t δ Z ∧ Fits K T E G0 H0 G D Z
theorem Fits.up {K : PySem.W.Frag} {T : Tbl} {E : XK} {G0 H0 G G1 : Hp} {D : Ends} {Z : DEnds} (F : Fits K T E G0 H0 G D Z) (g : Same G G1) : Fits K T E G0 H0 G1 D Z :=
  ⟨fun δ G' σ H h => F.nx δ G' σ H (g.trans h), fun δ G' σ H h => F.bk δ G' σ H (g.trans h), fun δ G' σ H h => F.ct δ G' σ H (g.trans h), F.rt, F.rn, F.ex⟩
theorem Fits.lv {K : PySem.W.Frag} {T : Tbl} {E : XK} {G0 H0 G H : Hp} {σ : L2.St} {δ : DE} {D : Ends} {Z : DEnds} (F : Fits K T E G0 H0 G D Z) (R : Rep K T G0 H0 G H σ δ) : Lv K T E G0 H0 G H σ δ (Z.ex δ.s) :=
  ⟨R, fun c hc H' g => F.ex δ.s c hc H' (R.st.gr.trans g)⟩
def sqD (t u : TDS) : TDS := fun δ Z => t δ { Z with nx := fun δ' => u δ' Z }
def nxD : TDS := fun δ Z => Z.nx δ
section
variable {X : Cx} {K : PySem.W.Frag} {T : Tbl} {E : XK} {st : Stmt} {rest : List Stmt} {t u : TDS} {e : Expr} {pos : Pos}
theorem ps_imp {t t' : TS} (h : PS X st t) (i : ∀ D σ H, t' D σ H → t D σ H) : PS X st t' := ⟨fun pins s σ H D I q => h.run pins s σ H D I (i D σ H q)⟩
theorem pss_imp {sts : List Stmt} {t t' : TS} (h : PSs X sts t) (i : ∀ D σ H, t' D σ H → t D σ H) : PSs X sts t' := ⟨fun pins s σ H D I q => h.run pins s σ H D I (i D σ H q)⟩
theorem pd_nil : PSs X [] (lS K T E nxD) := pss_imp pss_nil fun D σ H ⟨δ, G0, H0, G, Z, R, h, F⟩ => F.nx δ G σ H (.refl _) R h
theorem pd_sq (h1 : PS X st (lS K T E t)) (h2 : PSs X rest (lS K T E u)) : PSs X (st :: rest) (lS K T E (sqD t u)) :=
  pss_imp (pss_cons h1 h2) fun D σ H ⟨δ, G0, H0, G, Z, R, h, F⟩ => ⟨δ, G0, H0, G, _, R, h, ⟨fun δ' G' σ' H' g R' h' => ⟨δ', G0, H0, G', Z, R', h', F.up g⟩, F.bk, F.ct, F.rt, F.rn, F.ex⟩⟩
theorem pd_s1 (h1 : PS X st (lS K T E t)) : PSs X [st] (lS K T E t) := pss_one h1
theorem pd_pass : PS X (.Pass pos) (lS K T E nxD) := ps_imp ps_pass fun D σ H ⟨δ, G0, H0, G, Z, R, h, F⟩ => F.nx δ G σ H (.refl _) R h
/-- the frame's own list in slot i stands still from now on -/
def fzD (i : Nat) (δ : DE) : DE := match δ.sl[i]? with
  | some (.ow xs) => δ.set i (.d (.lst xs))
  | some (.oK ks xs) => δ.set i (.d (.dK ks xs))
  | some (.oT ks xs) => δ.set i (.d (.dT ks xs))
  | _ => δ
def tFz (i : Nat) (t : TDS) : TDS := fun δ Z => t (fzD i δ) Z
theorem rep_fz {G0 H0 G H : Hp} {σ : L2.St} {δ : DE} (i : Nat) (R : Rep K T G0 H0 G H σ δ) : ∃ G', Same G G' ∧ Rep K T G0 H0 G' H σ (fzD i δ) := by
  unfold fzD
  cases e : δ.sl[i]? with
  | none => exact ⟨G, .refl _, R⟩
  | some o =>
    obtain ⟨v, h1, h2⟩ := R.sl i o e
    cases o with
    | no => exact ⟨G, .refl _, R⟩
    | d x => exact ⟨G, .refl _, R⟩
    | sr a => exact ⟨G, .refl _, R⟩
    | ow xs =>
      obtain ⟨a, us, ev, q1, q2, q3, q4, q5⟩ := h2
      rw [ev] at h1
      exact ⟨_, Wn.Same.new q3, R.fz e rfl h1 q1 q2 q3 q4 trivial ⟨a, us, rfl, upd_same, q5.mono (Wn.Same.new q3)⟩⟩
    | oK ks xs =>
      obtain ⟨a, us, ev, q1, q2, q3, q4, q6, q5⟩ := h2
      rw [ev] at h1
      exact ⟨_, Wn.Same.new q3, R.fz e rfl h1 q1 q2 q3 q4 trivial ⟨a, us, rfl, upd_same, q6, q5.mono (Wn.Same.new q3)⟩⟩
    | oT ks xs =>
      obtain ⟨a, us, ev, q1, q2, q3, q4, q6, q5⟩ := h2
      rw [ev] at h1
      exact ⟨_, Wn.Same.new q3, R.fz e rfl h1 q1 q2 q3 q4 trivial ⟨a, us, rfl, upd_same, q6, q5.mono (Wn.Same.new q3)⟩⟩
theorem pd_fz (i : Nat) (h : PS X st (lS K T E t)) : PS X st (lS K T E (tFz i t)) := ps_imp h fun D σ H ⟨δ, G0, H0, G, Z, R, h, F⟩ => by
  obtain ⟨G', g, R'⟩ := rep_fz i R
  exact ⟨_, G0, H0, G', Z, R', h, F.up g⟩
/-- an expression alone -/
def tEx (te : TD) : TDS := fun δ Z => te δ (fun _ => Z.nx δ) (Z.ex δ.s)
theorem pd_ex {te : TD} (he : PE X e (lR K T E te)) (hs : swapsWith e none pos.line X.env = pure false := by rfl) : PS X (.Expr e pos) (lS K T E (tEx te)) :=
  ps_imp (ps_expr he hs) fun D σ H ⟨δ, G0, H0, G, Z, R, h, F⟩ => ⟨δ, G0, H0, G, _, _, F.lv R, h, fun d hd v H' g r => F.nx δ G σ H' (.refl _) (R.gr g) hd⟩
/-- return -/
def tRt (te : TD) : TDS := fun δ Z => te δ (fun d => Z.rt δ.s d) (Z.ex δ.s)
theorem pd_rt {te : TD} (he : PE X e (lF K T E te)) : PS X (.Return (some e) pos) (lS K T E (tRt te)) :=
  ps_imp (ps_ret he) fun D σ H ⟨δ, G0, H0, G, Z, R, h, F⟩ => ⟨δ, G0, H0, G, _, _, F.lv R, h, fun d hd v H' G' x r => F.rt δ.s d hd v G' H' (R.st.trans x) r⟩
def tRn (te : TDL) : TDS := fun δ Z => te δ (fun ds => Z.rn δ.s ds) (Z.ex δ.s)
theorem pd_rn {te : TDL} (he : PE X e (lN K T E te)) : PS X (.Return (some e) pos) (lS K T E (tRn te)) :=
  ps_imp (ps_ret he) fun D σ H ⟨δ, G0, H0, G, Z, R, h, F⟩ => ⟨δ, G0, H0, G, _, _, F.lv R, h, fun ds hd a us H' G' x h1 h2 h3 r => by
    have sa : δ.s ≠ some a := fun z => by
      obtain ⟨p, q, e, _⟩ := R.src a z
      rw [h1] at e
      cases e
    exact F.rn δ.s ds hd a us G' H' (R.st.trans x) (R.st.gr.none_of h1) h2 sa h3 r⟩
/-- return found, the frame's own list -/
def tRo (i : Nat) : TDS := fun δ Z => match δ.sl[i]? with
  | some (.ow xs) => Z.rn δ.s xs
  | _ => False
theorem pd_ro (i : Nat) {x : Str} {p : Pos} (hN : X.N[i]? = some x := by rfl) (hv : Vis X.env.scope x := by first | exact Or.inl rfl | exact Or.inr (Or.inl rfl) | exact Or.inr (Or.inr rfl)) (hd : (x == ("__debug__" : Str)) = false := by decide)
    (hcd : (x == ("__classdict__" : Str)) = false := by decide) : PS X (.Return (some (.Name x p)) pos) (lS K T E (tRo i)) :=
  ps_imp (ps_ret (pe_var hN hv hd hcd)) fun D σ H ⟨δ, G0, H0, G, Z, R, h, F⟩ => by
    unfold tRo at h
    cases e : δ.sl[i]? with
    | none =>
      rw [e] at h
      exact h.elim
    | some o =>
      rw [e] at h
      cases o with
      | ow xs =>
        obtain ⟨v, h1, a, us, e2, q1, q2, q3, q4, q5⟩ := R.sl i _ e
        exact ⟨.ref a, by rw [h1, e2], F.rn δ.s xs h a us G H R.st q1 q3 q2 q4 q5⟩
      | _ => exact h.elim
/-- x = e -/
def tSet (i : Nat) (te : TD) : TDS := fun δ Z => te δ (fun d => Z.nx (δ.set i (.d d))) (Z.ex δ.s)
theorem pd_set (i : Nat) {x : Str} {te : TD} {pos' : Pos} (hN : X.N.Nodup) (he : PE X e (lF K T E te)) (hi : X.N[i]? = some x := by rfl) (hx : Loc X.env.scope x := by first | exact Or.inl rfl | exact Or.inr rfl) (hs : swapsWith e (some (.Name x pos')) pos.line X.env = pure false := by rfl)
    (hf : X.fn x = true ∨ X.env.scope.names.lookup x = some .local := by first | exact .inl rfl | exact .inr rfl) : PS X (.Assign [.Name x pos'] e pos) (lS K T E (tSet i te)) :=
  ps_imp (ps_set hN hi hx he hs hf) fun D σ H ⟨δ, G0, H0, G, Z, R, h, F⟩ => ⟨δ, G0, H0, G, _, _, F.lv R, h, fun d hd v H' G' x r => F.nx _ G' _ H' x.gg ((R.stp x).setD r) hd⟩
/-- x = a new list -/
def tSetN (i : Nat) (te : TDL) : TDS := fun δ Z => te δ (fun ds => Z.nx (δ.set i (.ow ds))) (Z.ex δ.s)
theorem rep_setN {G0 H0 G H G' H' : Hp} {σ : L2.St} {δ : DE} {i : Nat} {a : Addr} {us : List V} {ds : List D} (R : Rep K T G0 H0 G H σ δ) (x : Stp T δ.s G G' H H') (h1 : H a = none) (h2 : G' a = none) (h3 : H' a = some (.lst us)) (r : RpA K G' ds us) :
    Rep K T G0 H0 G' H' (σ.set i (some (.ref a))) (δ.set i (.ow ds)) := by
  have sa : δ.s ≠ some a := fun z => by
    obtain ⟨p, q, e, _⟩ := R.src a z
    rw [h1] at e
    cases e
  exact (R.stp x).setO ⟨a, us, rfl, R.st.gr.none_of h1, sa, h2, h3, r⟩ fun j _ hj => R.own_ne h1 j hj
theorem pd_setN (i : Nat) {x : Str} {te : TDL} {pos' : Pos} (hN : X.N.Nodup) (he : PE X e (lN K T E te)) (hi : X.N[i]? = some x := by rfl) (hx : Loc X.env.scope x := by first | exact Or.inl rfl | exact Or.inr rfl) (hs : swapsWith e (some (.Name x pos')) pos.line X.env = pure false := by rfl)
    (hf : X.fn x = true ∨ X.env.scope.names.lookup x = some .local := by first | exact .inl rfl | exact .inr rfl) : PS X (.Assign [.Name x pos'] e pos) (lS K T E (tSetN i te)) :=
  ps_imp (ps_set hN hi hx he hs hf) fun D σ H ⟨δ, G0, H0, G, Z, R, h, F⟩ => ⟨δ, G0, H0, G, _, _, F.lv R, h, fun ds hd a us H' G' x h1 h2 h3 r => F.nx _ G' _ H' x.gg (rep_setN R x h1 h2 h3 r) hd⟩
/-- if -/
def tIf (c : TDB) (t u : TDS) : TDS := fun δ Z => c δ (fun b => match b with
  | true => t δ Z
  | false => u δ Z) (Z.ex δ.s)
theorem pd_if {c : Expr} {a b : List Stmt} {tc : TDB} (hc : PT X c (lB K T E tc)) (ha : PSs X a (lS K T E t)) (hb : PSs X b (lS K T E u)) : PS X (.If c a b pos) (lS K T E (tIf tc t u)) :=
  ps_imp (ps_if hc ha hb) fun D σ H ⟨δ, G0, H0, G, Z, R, h, F⟩ => ⟨δ, G0, H0, G, _, _, F.lv R, h, fun b hb H' g => by
    cases b with
    | true => exact iteT ⟨δ, G0, H0, G, Z, R.gr g, hb, F⟩
    | false => exact iteF ⟨δ, G0, H0, G, Z, R.gr g, hb, F⟩⟩
/-- raise X('..') -/
def tRs (C : Addr) : TDS := fun δ Z => Z.ex δ.s C
theorem pd_rs {C : Addr} (hc : X.calm = true) (tk : L2N.Takes X fun cls d _ H => E cls d H) (he : L2N.PMk X e (fun _ H Q => Q (.ref C) none H)) : PS X (.Raise (some e) none pos) (lS K T E (tRs C)) :=
  ps_imp (L2N.ps_raise hc tk he) fun D σ H ⟨δ, G0, H0, G, Z, R, h, F⟩ => F.ex δ.s C h H R.st.gr
end
/-! ### targets -/
abbrev TGD := D → DE → (DE → Prop) → Prop
def setAll : List Nat → List D → DE → Option DE
  | [], [], δ => some δ
  | j :: js, d :: ds, δ => setAll js ds (δ.set j (.d d))
  | _, _, _ => none
def Agree (js : List Nat) (σ σ' : L2.St) : Prop := σ'.length = σ.length ∧ ∀ i, i ∉ js → σ'[i]? = σ[i]?
theorem Agree.refl {js : List Nat} {σ : L2.St} : Agree js σ σ := ⟨rfl, fun _ _ => rfl⟩
theorem Agree.set {js : List Nat} {σ σ' : L2.St} {j : Nat} {v : Option V} (a : Agree js σ σ') (hj : j ∈ js) : Agree js σ (σ'.set j v) := ⟨by rw [List.length_set]; exact a.1, fun i hi => by
  rw [List.getElem?_set_ne (fun z => hi (by rw [← z]; exact hj))]
  exact a.2 i hi⟩
theorem Agree.trans {js : List Nat} {σ σ1 σ2 : L2.St} (a : Agree js σ σ1) (b : Agree js σ1 σ2) : Agree js σ σ2 := ⟨b.1.trans a.1, fun i hi => (b.2 i hi).trans (a.2 i hi)⟩
theorem Agree.mono {js ks : List Nat} {σ σ1 : L2.St} (a : Agree js σ σ1) (h : ∀ i ∈ js, i ∈ ks) : Agree ks σ σ1 := ⟨a.1, fun i hi => a.2 i fun z => hi (h i z)⟩
def lG (K : PySem.W.Frag) (T : Tbl) (js : List Nat) (g : TGD) : TG := fun v σ H Q => ∃ δ G0 H0 G d P, Rep K T G0 H0 G H σ δ ∧ Rp K G d v ∧ g d δ P ∧ ∀ δ' σ', Rep K T G0 H0 G H σ' δ' → δ'.s = δ.s → Agree js σ σ' → P δ' → Q σ' H
def lGs (K : PySem.W.Frag) (T : Tbl) (js : List Nat) : TGs := fun vs σ H Q => ∃ δ G0 H0 G ds, ∃ P : DE → Prop, Rep K T G0 H0 G H σ δ ∧ RpA K G ds vs ∧ (∃ δ', setAll js ds δ = some δ' ∧ P δ') ∧ ∀ δ' σ', Rep K T G0 H0 G H σ' δ' → δ'.s = δ.s → Agree js σ σ' → P δ' → Q σ' H
def gN (j : Nat) : TGD := fun d δ P => P (δ.set j (.d d))
def gT (js : List Nat) : TGD := fun d δ P => match d with
  | .tup ds => (match setAll js ds δ with
    | some δ' => P δ'
    | none => False)
  | _ => False
section
variable {X : Cx} {K : PySem.W.Frag} {T : Tbl} {pos : Pos} {x : Str} {e : Expr} {es : List Expr} {js : List Nat}
theorem pg_imp {t t' : TG} (h : PG X e t) (i : ∀ v σ H Q, t' v σ H Q → t v σ H Q) : PG X e t' := ⟨fun pins s σ H v u Q I r q => h.run pins s σ H v u Q I r (i v σ H Q q)⟩
theorem pgs_imp {t t' : TGs} (h : PGs X es t) (i : ∀ v σ H Q, t' v σ H Q → t v σ H Q) : PGs X es t' := ⟨fun pins s σ H v u Q I r q => h.run pins s σ H v u Q I r (i v σ H Q q)⟩
theorem pd_gn (j : Nat) (hN : X.N.Nodup) (hi : X.N[j]? = some x := by rfl) (hx : Loc X.env.scope x := by first | exact Or.inl rfl | exact Or.inr rfl) (hf : X.fn x = true ∨ X.env.scope.names.lookup x = some .local := by first | exact .inl rfl | exact .inr rfl) :
    PG X (.Name x pos) (lG K T [j] (gN j)) :=
  pg_imp (pg_name hN hi hx hf) fun v σ H Q ⟨δ, G0, H0, G, d, P, R, r, h, k⟩ => k _ _ (R.setD r) rfl (Agree.refl.set (by simp)) h
theorem pd_gs0 : PGs X [] (lGs K T []) := pgs_imp pgs_nil fun vs σ H Q ⟨δ, G0, H0, G, ds, P, R, r, ⟨δ', h, hp⟩, k⟩ => by
  cases ds with
  | nil =>
    cases h
    exact ⟨r, k _ _ R rfl .refl hp⟩
  | cons d ds => cases h
theorem pd_gs1 (j : Nat) (hN : X.N.Nodup) (h2 : PGs X es (lGs K T js)) (hi : X.N[j]? = some x := by rfl) (hx : Loc X.env.scope x := by first | exact Or.inl rfl | exact Or.inr rfl) (hf : X.fn x = true ∨ X.env.scope.names.lookup x = some .local := by first | exact .inl rfl | exact .inr rfl)
    (hs : (assignEach (.Name x pos :: es) X.env).map (·.2) = assign (.Name x pos) X.env :: (assignEach es X.env).map (·.2) := by rfl) : PGs X (.Name x pos :: es) (lGs K T (j :: js)) :=
  pgs_imp (pgs_cons (pg_name hN hi hx hf) h2 hs) fun vs σ H Q ⟨δ, G0, H0, G, ds, P, R, r, ⟨δ', h, hp⟩, k⟩ => by
    cases ds with
    | nil => cases h
    | cons d ds =>
      obtain ⟨v, rs, e, r1, r2⟩ := r
      exact ⟨v, rs, e, _, G0, H0, G, ds, P, R.setD r1, r2, ⟨δ', h, hp⟩, fun δ' σ' R' hs a hp' => k δ' σ' R' hs (((Agree.refl (js := j :: js)).set (by simp)).trans (a.mono fun i hi => List.mem_cons_of_mem _ hi)) hp'⟩
theorem rd_gtup {K : PySem.W.Frag} {n : Nat} (hj : js.length = n) : ∀ v σ H Q, lG K T js (gT js) v σ H Q → L2.gTup K n (lGs K T js) v σ H Q :=
  fun v σ H Q ⟨δ, G0, H0, G, d, P, R, r, h, k⟩ => by
    unfold gT at h
    cases d with
    | tup ds =>
      obtain ⟨a, us, e, h1, h2⟩ := r
      have h : (match setAll js ds δ with | some δ' => P δ' | none => False) := h
      cases q : setAll js ds δ with
      | none =>
        rw [q] at h
        exact h.elim
      | some δ' =>
        rw [q] at h
        have hl : ∀ (js : List Nat) (ds : List D) (δ δ' : DE), setAll js ds δ = some δ' → ds.length = js.length := by
          intro js
          induction js with
          | nil =>
            intro ds δ δ' q
            cases ds with
            | nil => rfl
            | cons d ds => cases q
          | cons j js ih =>
            intro ds δ δ' q
            cases ds with
            | nil => cases q
            | cons d ds => rw [List.length_cons, List.length_cons, ih ds _ _ q]
        exact ⟨a, us, e, .of (vw_sub _ _ (R.gv _ _ h1)), by rw [h2.len, hl js ds δ δ' q, hj], δ, G0, H0, G, ds, P, R, h2, ⟨δ', q, h⟩, k⟩
    | _ => exact h.elim
theorem pd_gtup {kk n : Nat} (hc : X.calm = true) (h : PGs X es (lGs X.K T js)) (hj : js.length = n := by rfl) (hn : (assignEach es X.env).length = n := by rfl) (hst : (assignEach es X.env).findIdx? (·.1) = none := by rfl) : PG X (.Tuple es kk pos) (lG X.K T js (gT js)) :=
  pg_imp (pg_tup (n := n) hc h hn hst) (rd_gtup hj)
/-- targets = e -/
def tSetG (g : TGD) (te : TD) : TDS := fun δ Z => te δ (fun d => g d δ Z.nx) (Z.ex δ.s)
theorem pd_asg {E : XK} {tg : Expr} {te : TD} {g : TGD} (he : PE X e (lF K T E te)) (hg : PG X tg (lG K T js g)) (hs : swapsWithSole [tg] e pos.line X.env = pure false := by rfl) (hw : swappedStores [tg] e X.env = pure none := by rfl)
    (h1 : (assignEach [tg] X.env).map (·.2) = [assign tg X.env] := by rfl) : PS X (.Assign [tg] e pos) (lS K T E (tSetG g te)) :=
  ps_imp (ps_asg he hg hs hw h1) fun D σ H ⟨δ, G0, H0, G, Z, R, h, F⟩ => ⟨δ, G0, H0, G, _, _, F.lv R, h, fun d hd v H' G' x r => ⟨δ, G0, H0, G', d, Z.nx, R.stp x, r, hd, fun δ' σ' R' _ _ hz => F.nx δ' G' σ' H' x.gg R' hz⟩⟩
end
/-! ### loops -/
def loopD (g : TGD) (b : TDS) (Z : DEnds) : List D → DE → Prop
  | [], δ => Z.nx δ
  | x :: r, δ => g x δ fun δ' => b δ' { Z with nx := loopD g b Z r, ct := loopD g b Z r, bk := Z.nx }
def tForL (tl : TDL) (g : TGD) (b : TDS) : TDS := fun δ Z => tl δ (fun xs => loopD g b Z xs δ) (Z.ex δ.s)
def rgD (lo : Int) (n : Nat) : List D := (List.range n).map fun (k : Nat) => D.int (lo + k)
theorem rgD_get {lo : Int} {n i : Nat} (h : i < n) : (rgD lo n).drop i = D.int (lo + i) :: (rgD lo n).drop (i + 1) := by
  have hl : i < (rgD lo n).length := by
    unfold rgD
    rw [List.length_map, List.length_range]
    exact h
  have e : (rgD lo n)[i] = D.int (lo + i) := by simp [rgD]
  rw [List.drop_eq_getElem_cons hl, e]
theorem rgD_len (lo : Int) (n : Nat) : (rgD lo n).length = n := by
  unfold rgD
  rw [List.length_map, List.length_range]
section
variable {X : Cx} {T : Tbl} {E : XK} {tg it : Expr} {body : List Stmt} {pos p : Pos} {js : List Nat} {g : TGD} {b : TDS} {K : PySem.W.Frag} {te : TD} {tl : TDL}
theorem Fits.turn {G0 H0 G : Hp} {D : Ends} {Z : DEnds} {Pv : L2.St → Hp → Prop} {nz : DE → Prop} (F : Fits K T E G0 H0 G D Z) {G1 : Hp} (g1 : Same G G1) (h : ∀ δ G' σ H, Same G1 G' → Rep K T G0 H0 G' H σ δ → nz δ → Pv σ H) :
    Fits K T E G0 H0 G1 { D with nx := Pv, ct := Pv, bk := D.nx } { Z with nx := nz, ct := nz, bk := Z.nx } :=
  ⟨h, fun δ G' σ H s => F.nx δ G' σ H (g1.trans s), h, F.rt, F.rn, F.ex⟩
/-- over a list that stands still -/
theorem pd_for (hp : PassesOwn (model X.prog X.w) X.A X.env X.xe) (hc : X.calm = true) (hi : PE X it (lF X.K T E te)) (hg : PG X tg (lG X.K T js g)) (hb : PSs X body (lS X.K T E b)) (hs : ∀ x, foldedSetIterable it X.env x = pure x := by intro _; rfl) :
    PS X (.For tg it body [] pos) (lS X.K T E (tForL (tItl te) g b)) :=
  ps_imp (ps_for hp hc (pi_list hi) hg hb hs) fun D σ H ⟨δ, G0, H0, G, Z, R, h, F⟩ => ⟨δ, G0, H0, G, _, _, F.lv R, h, fun d hd v H1 G1 x1 r => by
    cases d with
    | lst ds =>
      obtain ⟨a, us, e, h1, h2⟩ := r
      have hd : loopD g b Z ds δ := hd
      refine ⟨a, e, ⟨us, .of (vw_sub _ _ (x1.gv _ _ h1))⟩, for_list (K := X.K) (a := a) (xs := us) (fun i σ' H' => ∃ δ' G', Same G G' ∧ Rep X.K T G0 H0 G' H' σ' δ' ∧ loopD g b Z (ds.drop i) δ' ∧ G' a = some (.lst us) ∧ RpA X.K G' ds us)
        ⟨δ, G1, x1.gg, R.stp x1, hd, h1, h2⟩ (fun i σ' H' _ ⟨δ', G', _, R', _, h', _⟩ => .of (vw_sub _ _ (R'.gv _ _ h'))) (fun i x σ' H' hx ⟨δ', G', gg, R', hl, ha, ra⟩ => ?_) fun σ' H' ⟨δ', G', gg, R', hl, ha, ra⟩ => ?_⟩
      · have hil : i < ds.length := by
          rw [← ra.len]
          exact (List.getElem?_eq_some_iff.mp hx).1
        rw [List.drop_eq_getElem_cons hil] at hl
        obtain ⟨y, hy, ry⟩ := ra.get (List.getElem?_eq_getElem hil)
        rw [hx] at hy
        cases hy
        exact ⟨δ', G0, H0, G', ds[i], _, R', ry, hl, fun δ2 σ2 R2 _ _ h2 => ⟨δ2, G0, H0, G', _, R2, h2, F.turn gg fun δ3 G3 σ3 H3 s3 R3 h3 => ⟨δ3, G3, gg.trans s3, R3, h3, s3 _ _ ha, ra.mono s3⟩⟩⟩
      · rw [ra.len, List.drop_length] at hl
        exact F.nx δ' G' σ' H' gg R' hl
    | _ => exact hd.elim⟩
/-- over a tuple -/
theorem pd_forT (hp : PassesOwn (model X.prog X.w) X.A X.env X.xe) (hc : X.calm = true) (hi : PE X it (lF X.K T E te)) (hg : PG X tg (lG X.K T js g)) (hb : PSs X body (lS X.K T E b)) (hs : ∀ x, foldedSetIterable it X.env x = pure x := by intro _; rfl) :
    PS X (.For tg it body [] pos) (lS X.K T E (tForL (tTupI te) g b)) :=
  ps_imp (ps_for hp hc (pi_tup hi) hg hb hs) fun D σ H ⟨δ, G0, H0, G, Z, R, h, F⟩ => ⟨δ, G0, H0, G, _, _, F.lv R, h, fun d hd v H1 G1 x1 r => by
    cases d with
    | tup ds =>
      obtain ⟨a, us, e, h1, h2⟩ := r
      have hd : loopD g b Z ds δ := hd
      refine ⟨a, e, ⟨us, .of (vw_sub _ _ (x1.gv _ _ h1))⟩, for_tup (K := X.K) (a := a) (xs := us) (fun i σ' H' => ∃ δ' G', Same G G' ∧ Rep X.K T G0 H0 G' H' σ' δ' ∧ loopD g b Z (ds.drop i) δ' ∧ G' a = some (.tup us) ∧ RpA X.K G' ds us)
        ⟨δ, G1, x1.gg, R.stp x1, hd, h1, h2⟩ (fun i σ' H' _ ⟨δ', G', _, R', _, h', _⟩ => .of (vw_sub _ _ (R'.gv _ _ h'))) (fun i x σ' H' hx ⟨δ', G', gg, R', hl, ha, ra⟩ => ?_) fun σ' H' ⟨δ', G', gg, R', hl, ha, ra⟩ => ?_⟩
      · have hil : i < ds.length := by
          rw [← ra.len]
          exact (List.getElem?_eq_some_iff.mp hx).1
        rw [List.drop_eq_getElem_cons hil] at hl
        obtain ⟨y, hy, ry⟩ := ra.get (List.getElem?_eq_getElem hil)
        rw [hx] at hy
        cases hy
        exact ⟨δ', G0, H0, G', ds[i], _, R', ry, hl, fun δ2 σ2 R2 _ _ h2 => ⟨δ2, G0, H0, G', _, R2, h2, F.turn gg fun δ3 G3 σ3 H3 s3 R3 h3 => ⟨δ3, G3, gg.trans s3, R3, h3, s3 _ _ ha, ra.mono s3⟩⟩⟩
      · rw [ra.len, List.drop_length] at hl
        exact F.nx δ' G' σ' H' gg R' hl
    | _ => exact hd.elim⟩
/-- over range(..) -/
def tRg1 (t : TDL) : TDL := fun δ P EP => t δ (fun ds => match ds with
  | [.int j] => (-(2 ^ 62) ≤ j ∧ j < 2 ^ 62) ∧ P (rgD 0 j.toNat)
  | _ => False) EP
def tRg2 (t : TDL) : TDL := fun δ P EP => t δ (fun ds => match ds with
  | [.int i, .int j] => (-(2 ^ 62) ≤ i ∧ i < 2 ^ 62 ∧ -(2 ^ 62) ≤ j ∧ j < 2 ^ 62) ∧ P (rgD i (j - i).toNat)
  | _ => False) EP
theorem rg_loop {G0 H0 G : Hp} {D : Ends} {Z : DEnds} {σ : L2.St} {H1 : Hp} {δ : DE} {lo : Int} {n : Nat} (F : Fits K T E G0 H0 G D Z) (R : Rep K T G0 H0 G H1 σ δ) (h : loopD g b Z (rgD lo n) δ) :
    ∃ W : Nat → Nat → L2.St → Hp → Prop, (∃ m, W 0 m σ H1) ∧ ∀ i m σ H, W i m σ H →
      ((Itr lo n).stop i H ∧ D.nx σ H) ∨ ((Itr lo n).go i H ∧ ∃ N : L2.St → Hp → Prop, (∀ σ' H', N σ' H' → ∃ m', m' < m ∧ W (i + 1) m' σ' H') ∧ ∀ x H', (Itr lo n).yld i H x H' → lG K T js g x σ H' fun σ2 H2 => lS K T E b { D with nx := N, ct := N, bk := D.nx } σ2 H2) :=
  for_range (fun i σ' H' => ∃ δ' G', Same G G' ∧ Rep K T G0 H0 G' H' σ' δ' ∧ loopD g b Z ((rgD lo n).drop i) δ') ⟨δ, G, .refl _, R, h⟩ (fun i σ' H' hi ⟨δ', G', gg, R', hl⟩ => by
    rw [rgD_get hi] at hl
    exact ⟨δ', G0, H0, G', .int (lo + i), _, R', rfl, hl, fun δ2 σ2 R2 _ _ h2 => ⟨δ2, G0, H0, G', _, R2, h2, F.turn gg fun δ3 G3 σ3 H3 s3 R3 h3 => ⟨δ3, G3, gg.trans s3, R3, h3⟩⟩⟩) fun σ' H' ⟨δ', G', gg, R', hl⟩ => by
    rw [List.drop_eq_nil_of_le (by rw [rgD_len]; exact Nat.le_refl _)] at hl
    exact F.nx δ' G' σ' H' gg R' hl
theorem pd_forR1 {a : Expr} {ta : TDL} {p2 : Pos} (hp : PassesOwn (model X.prog X.w) X.A X.env X.xe) (hc : X.calm = true) (hm : X.mg "range" = none) (ha : PA X [a] (lAR X.K T E ta)) (hg : PG X tg (lG X.K T js g)) (hb : PSs X body (lS X.K T E b)) (hgr : Gl X "range" := by rfl)
    (hs1 : starEach [a] X.env = [(false, eval a X.env)] := by rfl) (hs : ∀ x, foldedSetIterable (.Call (.Name "range" p) [a] [] p2) X.env x = pure x := by intro _; rfl) : PS X (.For tg (.Call (.Name "range" p) [a] [] p2) body [] pos) (lS X.K T E (tForL (tRg1 ta) g b)) :=
  ps_imp (ps_for hp hc (pi_range1 hgr hm ha hs1) hg hb hs) fun D σ H ⟨δ, G0, H0, G, Z, R, h, F⟩ => ⟨δ, G0, H0, G, _, _, F.lv R, h, fun ds hd vs H1 g1 r => by
    split at hd
    · obtain ⟨v, e, ev⟩ := RpA.one r
      exact ⟨_, by rw [e, show v = _ from ev], hd.1.1, hd.1.2, rg_loop F (R.gr g1) hd.2⟩
    · exact hd.elim⟩
theorem pd_forR2 {a a2 : Expr} {ta : TDL} {p2 : Pos} (hp : PassesOwn (model X.prog X.w) X.A X.env X.xe) (hc : X.calm = true) (hm : X.mg "range" = none) (ha : PA X [a, a2] (lAR X.K T E ta)) (hg : PG X tg (lG X.K T js g)) (hb : PSs X body (lS X.K T E b)) (hgr : Gl X "range" := by rfl)
    (hs1 : starEach [a, a2] X.env = [(false, eval a X.env), (false, eval a2 X.env)] := by rfl) (hs2 : starEach [a2] X.env = [(false, eval a2 X.env)] := by rfl) (hs : ∀ x, foldedSetIterable (.Call (.Name "range" p) [a, a2] [] p2) X.env x = pure x := by intro _; rfl) : PS X (.For tg (.Call (.Name "range" p) [a, a2] [] p2) body [] pos) (lS X.K T E (tForL (tRg2 ta) g b)) :=
  ps_imp (ps_for hp hc (pi_range2 hgr hm ha hs1 hs2) hg hb hs) fun D σ H ⟨δ, G0, H0, G, Z, R, h, F⟩ => ⟨δ, G0, H0, G, _, _, F.lv R, h, fun ds hd vs H1 g1 r => by
    split at hd
    · obtain ⟨v, v', e, e1, e2⟩ := RpA.two r
      exact ⟨_, _, by rw [e, show v = _ from e1, show v' = _ from e2], hd.1, rg_loop F (R.gr g1) hd.2⟩
    · exact hd.elim⟩
end
end Wn

set_option Elab.async false
set_option linter.all false
set_option maxRecDepth 100000
set_option maxHeartbeats 4000000
namespace Wn
open PySem PySem.Spec PyProof.Rows L2
/-! ### a def by its body -/
def startD (N : List Str) (ds : List D) : List Slot := ds.map Slot.d ++ List.replicate (N.length - ds.length) Slot.no
def bodyF (N : List Str) (b : TDS) : Fn := fun s ds P EP => b ⟨s, startD N ds⟩ { nx := fun δ' => δ'.s = s ∧ P .non, rt := fun s' d => s' = s ∧ P d, rn := fun s' ds => s' = s ∧ P (.lst ds), ex := fun s' c => s' = s ∧ EP c }
def bodyN (N : List Str) (b : TDS) : FnL := fun s ds P EP => b ⟨s, startD N ds⟩ { nx := fun _ => False, rt := fun _ _ => False, rn := fun s' ds => s' = s ∧ P ds, ex := fun s' c => s' = s ∧ EP c }
theorem rep_start {K : PySem.W.Frag} {T : Tbl} {G H : Hp} {s : Option Addr} {ds : List D} {vs : List V} {N : List Str} (src : ∀ a, s = some a → Src a H) (tab : LamX.Tabs T H) (gv : Same G (vw s H)) (r : RpA K G ds vs) : Rep K T G H G H (L2.start N vs) ⟨s, startD N ds⟩ := by
  have noown : ∀ i, isOwn (startD N ds)[i]? = false := fun i => by
    unfold startD
    by_cases c : i < (ds.map Slot.d).length
    · rw [List.getElem?_append_left c, List.getElem?_map]
      cases ds[i]? <;> rfl
    · rw [List.getElem?_append_right (by omega)]
      cases e : (List.replicate (N.length - ds.length) Slot.no)[i - (ds.map Slot.d).length]? with
      | none => rfl
      | some o =>
        have z := List.eq_of_mem_replicate (List.mem_of_getElem? e)
        rw [z] <;> rfl
  refine ⟨.refl gv, src, tab, ?_, fun i o h => ?_, fun i j a _ h1 => ?_⟩
  · show (L2.start N vs).length = (startD N ds).length
    unfold L2.start startD
    simp [r.len]
  · have h : (startD N ds)[i]? = some o := h
    unfold startD at h
    unfold L2.start
    by_cases c : i < ds.length
    · rw [List.getElem?_append_left (by rw [List.length_map]; exact c), List.getElem?_map, List.getElem?_eq_getElem c] at h
      have h : some (Slot.d ds[i]) = some o := h
      cases h
      obtain ⟨v, hv, rv⟩ := r.get (List.getElem?_eq_getElem c)
      refine ⟨some v, ?_, v, rfl, rv⟩
      rw [List.getElem?_append_left (by rw [List.length_map, r.len]; exact c), List.getElem?_map, hv] <;> rfl
    · rw [List.getElem?_append_right (by rw [List.length_map]; omega)] at h
      have z := List.eq_of_mem_replicate (List.mem_of_getElem? h)
      have hl : i - (ds.map Slot.d).length < N.length - ds.length := by
        have q := (List.getElem?_eq_some_iff.mp h).1
        rw [List.length_replicate] at q
        exact q
      rw [List.length_map] at hl
      refine ⟨none, ?_, by rw [z]; trivial⟩
      rw [List.getElem?_append_right (by rw [List.length_map, r.len]; omega), List.length_map, r.len, List.getElem?_replicate, if_pos hl]
  · have z := noown i
    have h1 : isOwn (startD N ds)[i]? = true := h1
    rw [z] at h1
    cases h1
section
variable {P : Program} {w : World} {K : PySem.W.Frag} {T : Tbl} {mg : Str → Option Value} {base : Heap} {x qual : Str} {st : Stmt} {f : Addr} {fd : FuncData} {N ps : List Str} {k n : Nat} {b : TDS}
theorem fn_okX {sp : Sp} (F : L2.Fun K x qual st f fd) (S : FnScope N ps (defScope st)) (len : ∀ vs H Q E, sp vs H Q E → vs.length = ps.length)
    (hbody : ∀ (cdv : Value) (A : Around) (outer : List Env) (s : Shared) (H : Hp) (vs : List V) (Q : VK) (E : XK), Room k (A.deeper (envOfC qual (defScope st) s.heap.objs.size f cdv)) → sp vs H Q E →
      ∃ t, PSs (cxOf (L2N.CX P w) P w K mg base N qual (defScope st) f cdv A outer s H E) (defBody st) t ∧ t { nx := fun _ H' => Q .non H', rt := Q } (L2.start N vs) H) : FnOk P w K mg base (L2N.CX P w) (k + 1) f fd ps sp := by
  obtain ⟨oc, od, kV, doc, pm, an, cdv, ct, osl, rfl, lk, hcd⟩ := F.ex
  exact fn_of lk hcd S len fun A outer s H vs Q E hr hsp => hbody cdv A outer s H vs Q E hr hsp
theorem fn_D (F : L2.Fun K x qual st f fd) (S : FnScope N ps (defScope st)) (hn : ps.length = n) (hb : ∀ (cdv : Value) (A : Around) (outer : List Env) (s : Shared) (H : Hp) (E : XK), Room k (A.deeper (envOfC qual (defScope st) s.heap.objs.size f cdv)) →
      PSs (cxOf (L2N.CX P w) P w K mg base N qual (defScope st) f cdv A outer s H E) (defBody st) (lS K T E b)) : FnOk P w K mg base (L2N.CX P w) (k + 1) f fd ps (spD K T n (bodyF N b)) := by
  refine fn_okX F S (fun vs H Q E ⟨s, G, ds, P, EP, _, _, _, r, hl, _⟩ => by rw [r.len, hl, hn]) fun cdv A outer s0 H vs Q E hr ⟨s, G, ds, P, EP, src, tab, gv, r, hl, h, k1, k2⟩ => ⟨_, hb cdv A outer s0 H E hr, ?_⟩
  refine ⟨⟨s, startD N ds⟩, G, H, G, _, rep_start src tab gv r, h, ⟨fun δ G' σ H' _ R hz => ?_, fun δ G' σ H' _ R hz => hz.elim, fun δ G' σ H' _ R hz => hz.elim, fun s' d hz v G' H' x r' => ?_, fun s' es hz a us G' H' x h1 h2 h4 h3 r' => ?_, fun s' c hz H' g => ?_⟩⟩
  · obtain ⟨e, hp⟩ := hz
    exact k1 _ hp .non H' G' (by rw [← e]; exact R.st) rfl
  · obtain ⟨e, hp⟩ := hz
    exact k1 d hp v H' G' (by rw [← e]; exact x) r'
  · obtain ⟨e, hp⟩ := hz
    rw [e] at x h4
    refine k1 _ hp (.ref a) H' (upd G' a (.lst us)) ⟨x.gr, x.gg.trans (Wn.Same.new h2), fun c o e => ?_, fun c hc => ?_⟩ ⟨a, us, rfl, upd_same, r'.mono (Wn.Same.new h2)⟩
    · by_cases ca : c = a
      · rw [ca, upd_same] at e
        cases e
        rw [ca]
        exact vw_at h3 h4 fun ps z => by cases z
      · rw [upd_ne ca] at e
        exact x.gv c o e
    · by_cases ca : c = a
      · rw [ca]
        exact .inr h1
      · rw [upd_ne ca] at hc
        exact x.nw c hc
  · obtain ⟨e, hp⟩ := hz
    exact k2 c hp H' (by rw [← e]; exact g)
theorem fn_N (F : L2.Fun K x qual st f fd) (S : FnScope N ps (defScope st)) (hn : ps.length = n) (hb : ∀ (cdv : Value) (A : Around) (outer : List Env) (s : Shared) (H : Hp) (E : XK), Room k (A.deeper (envOfC qual (defScope st) s.heap.objs.size f cdv)) →
      PSs (cxOf (L2N.CX P w) P w K mg base N qual (defScope st) f cdv A outer s H E) (defBody st) (lS K T E b)) : FnOk P w K mg base (L2N.CX P w) (k + 1) f fd ps (spN K T n (bodyN N b)) := by
  refine fn_okX F S (fun vs H Q E ⟨s, G, ds, P, EP, _, _, _, r, hl, _⟩ => by rw [r.len, hl, hn]) fun cdv A outer s0 H vs Q E hr ⟨s, G, ds, P, EP, src, tab, gv, r, hl, h, k1, k2⟩ => ⟨_, hb cdv A outer s0 H E hr, ?_⟩
  refine ⟨⟨s, startD N ds⟩, G, H, G, _, rep_start src tab gv r, h, ⟨fun δ G' σ H' _ R hz => hz.elim, fun δ G' σ H' _ R hz => hz.elim, fun δ G' σ H' _ R hz => hz.elim, fun s' d hz v G' H' x r' => hz.elim, fun s' es hz a us G' H' x h1 h2 h4 h3 r' => ?_, fun s' c hz H' g => ?_⟩⟩
  · obtain ⟨e, hp⟩ := hz
    exact k1 es hp a us H' G' (by rw [← e]; exact x) h1 h2 h3 r'
  · obtain ⟨e, hp⟩ := hz
    exact k2 c hp H' (by rw [← e]; exact g)
/-- weaker promises -/
theorem spD_imp {φ ψ : Fn} (h : ∀ s ds P EP, ds.length = n → ψ s ds P EP → φ s ds P EP) : ∀ vs H Q E, spD K T n ψ vs H Q E → spD K T n φ vs H Q E := fun vs H Q E ⟨s, G, ds, P, EP, h1, h2, h3, h4, h5, h6, h7⟩ => ⟨s, G, ds, P, EP, h1, h2, h3, h4, h5, h s ds P EP h5 h6, h7⟩
theorem spN_imp {φ ψ : FnL} (h : ∀ s ds P EP, ds.length = n → ψ s ds P EP → φ s ds P EP) : ∀ vs H Q E, spN K T n ψ vs H Q E → spN K T n φ vs H Q E := fun vs H Q E ⟨s, G, ds, P, EP, h1, h2, h3, h4, h5, h6, h7⟩ => ⟨s, G, ds, P, EP, h1, h2, h3, h4, h5, h s ds P EP h5 h6, h7⟩
theorem Cl.imp {sp sp' : Sp} (c : Cl P w K mg base k x sp) (h : ∀ vs H Q E, sp' vs H Q E → sp vs H Q E) : Cl P w K mg base k x sp' := by
  obtain ⟨f, fd, ps, F, r⟩ := c.ex
  exact ⟨f, fd, ps, F.imp h, r⟩
theorem Cl.mono {sp : Sp} {j : Nat} (c : Cl P w K mg base j x sp) (h : j ≤ k) : Cl P w K mg base k x sp := by
  obtain ⟨f, fd, ps, F, r⟩ := c.ex
  exact ⟨f, fd, ps, F.mono h, r⟩
end
/-- what a def's body wants of exceptions -/
theorem takesE {P : Program} {w : World} {K : PySem.W.Frag} {mg : Str → Option Value} {base : Heap} {N : List Str} {qual : Str} {sc : Scope} {f : Addr} {cd : Value} {A : Around} {outer : List Env} {s : Shared} {H : Hp} {E : XK} :
    L2N.Takes (cxOf (L2N.CX P w) P w K mg base N qual sc f cd A outer s H E) (fun cls d _ H => E cls d H) := L2N.takes_of rfl rfl rfl rfl
theorem passE {P : Program} {w : World} {K : PySem.W.Frag} {mg : Str → Option Value} {base : Heap} {N : List Str} {qual : Str} {sc : Scope} {f : Addr} {cd : Value} {A : Around} {outer : List Env} {s : Shared} {H : Hp} {E : XK} :
    Passes (L2N.CX P w) (cxOf (L2N.CX P w) P w K mg base N qual sc f cd A outer s H E) E := L2N.passes_call takesE fun _ _ _ _ h => h
/-! ### while -/
def tWh (c : TDB) (b : TDS) : TDS := fun δ Z => ∃ W : Nat → DE → Prop, (∃ m, W m δ) ∧ ∀ m δ, W m δ → c δ (fun q => match q with
  | true => b δ { Z with nx := fun δ' => ∃ m', m' < m ∧ W m' δ', ct := fun δ' => ∃ m', m' < m ∧ W m' δ', bk := Z.nx }
  | false => Z.nx δ) (Z.ex δ.s)
section
variable {X : Cx} {K : PySem.W.Frag} {T : Tbl} {E : XK} {c e : Expr} {body : List Stmt} {pos : Pos} {tc : TDB} {b : TDS}
theorem pd_wh (hp : PassesOwn (model X.prog X.w) X.A X.env X.xe) (hc : PT X c (lB K T E tc)) (hb : PSs X body (lS K T E b)) : PS X (.While c body [] pos) (lS K T E (tWh tc b)) :=
  ps_imp (ps_while hp hc hb) fun D σ H ⟨δ, G0, H0, G, Z, R, ⟨W, ⟨m0, w0⟩, hW⟩, F⟩ => ⟨fun m σ' H' => ∃ δ' G', Same G G' ∧ Rep K T G0 H0 G' H' σ' δ' ∧ W m δ', ⟨m0, δ, G, .refl _, R, w0⟩, fun m σ' H' ⟨δ', G', gg, R', wm⟩ =>
    ⟨δ', G0, H0, G', _, _, (F.up gg).lv R', hW m δ' wm, fun q hq H1 g => by
      cases q with
      | true =>
        refine iteT ⟨fun σ2 H2 => ∃ δ2 G2, Same G G2 ∧ Rep K T G0 H0 G2 H2 σ2 δ2 ∧ ∃ m', m' < m ∧ W m' δ2, fun σ2 H2 ⟨δ2, G2, g2, R2, m', hm, w'⟩ => ⟨m', hm, δ2, G2, g2, R2, w'⟩, δ', G0, H0, G', _, R'.gr g, hq, ?_⟩
        exact F.turn (nz := fun δ' => ∃ m', m' < m ∧ W m' δ') gg fun δ3 G3 σ3 H3 s3 R3 h3 => ⟨δ3, G3, gg.trans s3, R3, h3⟩
      | false => exact iteF (F.nx δ' G' σ' H1 gg (R'.gr g) hq)⟩⟩
/-! ### the frame's own lists changed -/
def tApp (i : Nat) (te : TD) : TDS := fun δ Z => match δ.sl[i]? with
  | some (.ow xs) => te δ (fun d => szOk (xs.length + 1) (Z.nx (δ.set i (.ow (xs ++ [d]))))) (Z.ex δ.s)
  | _ => False
theorem rep_ow {G0 H0 G H : Hp} {σ : L2.St} {δ : DE} {i : Nat} {xs : List D} (R : Rep K T G0 H0 G H σ δ) (e : δ.sl[i]? = some (.ow xs)) : ∃ a us, σ[i]? = some (some (.ref a)) ∧ H a = some (.lst us) ∧ RpA K G xs us ∧ vw δ.s H a = some (.lst us) := by
  obtain ⟨v, h1, a, us, ev, q1, q2, q3, q4, q5⟩ := R.sl i _ e
  rw [ev] at h1
  exact ⟨a, us, h1, q4, q5, vw_at q4 q2 fun ps z => by cases z⟩
theorem rep_owW {G0 H0 G H : Hp} {σ : L2.St} {δ : DE} {i : Nat} {xs xs' : List D} {a : Addr} {us' : List V} (R : Rep K T G0 H0 G H σ δ) (e : δ.sl[i]? = some (.ow xs)) (h : σ[i]? = some (some (.ref a))) (r : RpA K G xs' us') : Rep K T G0 H0 G (upd H a (.lst us')) σ (δ.set i (.ow xs')) := by
  obtain ⟨v, h1, a2, us, ev, q1, q2, q3, q4, q5⟩ := R.sl i _ e
  rw [ev, h] at h1
  cases h1
  exact R.wr e rfl h q1 q2 q3 q4 trivial ⟨a, us', rfl, q1, q2, q3, upd_same, r⟩
theorem pd_app (i : Nat) {x : Str} {te : TD} {p apos cpos : Pos} (he : PE X e (lF X.K T E te)) (hN : X.N[i]? = some x := by rfl) (hv : Vis X.env.scope x := by first | exact Or.inl rfl | exact Or.inr (Or.inl rfl) | exact Or.inr (Or.inr rfl)) (hd : (x == ("__debug__" : Str)) = false := by decide)
    (hcd : (x == ("__classdict__" : Str)) = false := by decide) (hs : swapsWith (.Call (.Attribute (.Name x p) "append" apos) [e] [] cpos) none pos.line X.env = pure false := by rfl) (hbase : attributeBase (.Name x p) "append" X.env (eval (.Name x p) X.env) = eval (.Name x p) X.env := by rfl)
    (hfew : ((backTo cpos (starEach [e] X.env)).all (fun x => !x.1) && (backToKw cpos (keywordEach [] X.env)).all (fun x => x.1.isSome)
      && decide ([e].length + ([] : List Keyword).length + (if ([] : List Keyword).isEmpty then 0 else 1) < 30)) = true := by rfl)
    (hline : (apos.endLine == cpos.line) = true := by rfl) (hs2 : starEach [e] X.env = (false, eval e X.env) :: starEach [] X.env := by rfl) (hplain : (backTo cpos (starEach [] X.env)).any (·.1) = false := by rfl) :
    PS X (.Expr (.Call (.Attribute (.Name x p) "append" apos) [e] [] cpos) pos) (lS X.K T E (tApp i te)) :=
  ps_imp (ps_expr (pe_bm PySem.F.plainAttrs_list PySem.F.slot_list_append PySem.F.type_list_append mt_append (pe_var hN hv hd hcd) (pa_cons he pa_nil hs2) hbase hfew hline hs2 hplain) hs) fun D σ H ⟨δ, G0, H0, G, Z, R, h, F⟩ => by
    unfold tApp at h
    cases e0 : δ.sl[i]? with
    | none =>
      rw [e0] at h
      exact h.elim
    | some o =>
      rw [e0] at h
      cases o with
      | ow xs =>
        obtain ⟨a, us, h1, h2, h3, h4⟩ := rep_ow R e0
        refine ⟨.ref a, h1, Or.inl ⟨rfl, us, .of h2⟩, δ, G0, H0, G, _, _, F.lv R, h, fun d hd v H' G' x r => ?_⟩
        obtain ⟨z1, z2⟩ := hd.get
        refine ⟨a, us, v, rfl, rfl, vw_sub _ _ (x.gr.ex _ _ h4), by rw [h3.len]; exact z1, ?_⟩
        exact F.nx _ G' σ _ x.gg (rep_owW (R.stp x) e0 h1 ((h3.mono x.gg).snoc r)) z2
      | _ => exact h.elim
/-- xs[j] = e -/
def tStI (i : Nat) (ti te : TD) : TDS := fun δ Z => te δ (fun d => match δ.sl[i]? with
  | some (.ow xs) => ti δ (fun k => match k with
    | .int j => (match ixN xs.length j with
      | some n => Z.nx (δ.set i (.ow (xs.set n d)))
      | none => False)
    | _ => False) (Z.ex δ.s)
  | _ => False) (Z.ex δ.s)
theorem pd_stI (i : Nat) {x : Str} {ix : Expr} {te ti : TD} {p tpos : Pos} (he : PE X e (lF X.K T E te)) (hi : PE X ix (lR X.K T E ti)) (hN : X.N[i]? = some x := by rfl) (hv : Vis X.env.scope x := by first | exact Or.inl rfl | exact Or.inr (Or.inl rfl) | exact Or.inr (Or.inr rfl)) (hd : (x == ("__debug__" : Str)) = false := by decide)
    (hcd : (x == ("__classdict__" : Str)) = false := by decide)
    (ha : ∀ v, assign (.Subscript (.Name x p) ix tpos) X.env v = (do
      let ov ← holding [v] (eval (.Name x p) X.env)
      let iv ← holding [v, ov] (eval ix X.env)
      standAt tpos
      holding [v, ov, iv] (setItem ov iv v)
      release [v, ov, iv] []) := by intro _; rfl) (hs : swapsWithSole [.Subscript (.Name x p) ix tpos] e pos.line X.env = pure false := by rfl) (hw : swappedStores [.Subscript (.Name x p) ix tpos] e X.env = pure none := by rfl)
    (h1 : (assignEach [.Subscript (.Name x p) ix tpos] X.env).map (·.2) = [assign (.Subscript (.Name x p) ix tpos) X.env] := by rfl) : PS X (.Assign [.Subscript (.Name x p) ix tpos] e pos) (lS X.K T E (tStI i ti te)) :=
  ps_imp (ps_asg he (pg_sub (pe_var hN hv hd hcd) hi set_list ha) hs hw h1) fun D σ H ⟨δ, G0, H0, G, Z, R, h, F⟩ => ⟨δ, G0, H0, G, _, _, F.lv R, h, fun d hd v H' G' x r => by
    cases e0 : δ.sl[i]? with
    | none =>
      rw [e0] at hd
      exact hd.elim
    | some o =>
      rw [e0] at hd
      cases o with
      | ow xs =>
        have R' := R.stp x
        obtain ⟨a, us, h1, h2, h3, h4⟩ := rep_ow R' e0
        refine ⟨.ref a, h1, δ, G0, H0, G', _, _, (F.up x.gg).lv R', hd, fun k hk kv H2 g2 rk => ?_⟩
        cases k with
        | int j =>
          have hk : (match ixN xs.length j with | some n => Z.nx (δ.set i (.ow (xs.set n d))) | none => False) := hk
          cases q : ixN xs.length j with
          | none =>
            rw [q] at hk
            exact hk.elim
          | some n =>
            rw [q] at hk
            exact ⟨a, us, j, n, rfl, rk, vw_sub _ _ (g2.ex _ _ h4), by rw [h3.len]; exact q, F.nx _ G' σ _ x.gg (rep_owW (R'.gr g2) e0 h1 (h3.set r n)) hk⟩
        | _ => exact hk.elim
      | _ => exact hd.elim⟩
end
end Wn

set_option Elab.async false
set_option linter.all false
set_option maxRecDepth 100000
set_option maxHeartbeats 4000000
namespace Wn
open PySem PySem.Spec PyProof.Rows L2
/-! ### comprehensions -/
def wipeD (δ : DE) : List Nat → DE
  | [] => δ
  | v :: vs => (wipeD δ vs).set v .no
def noEx : Addr → Prop := fun _ => False
def compD (g : TGD) (c : TDB) (e : TD) (δ : DE) (P : List D → Prop) : List D → List D → Prop
  | [], acc => P acc
  | x :: r, acc => g x δ fun δ' => c δ' (fun b => match b with
    | true => e δ' (fun y => compD g c e δ P r (acc ++ [y])) noEx
    | false => compD g c e δ P r acc) noEx
def yesD : TDB := fun _ P _ => P true
def tLc (tl : TDL) (vs : List Nat) (g : TGD) (c : TDB) (e : TD) : TDL := fun δ P EP => tl δ (fun xs => szOk xs.length (compD g c e (wipeD δ vs) P xs [])) EP
theorem wipeD_s (δ : DE) : ∀ vs : List Nat, (wipeD δ vs).s = δ.s
  | [] => rfl
  | v :: vs => wipeD_s δ vs
theorem wipe_get (σ : L2.St) : ∀ (vs : List Nat) (i : Nat), (wipe σ vs)[i]? = if i ∈ vs then (if i < σ.length then some none else none) else σ[i]?
  | [], i => by simp [wipe]
  | v :: vs, i => by
    unfold wipe
    by_cases c : v = i
    · subst c
      by_cases h : v < σ.length
      · rw [List.getElem?_set_self (by rw [wipe_length]; exact h), if_pos (by simp), if_pos h]
      · rw [List.getElem?_eq_none (by rw [List.length_set, wipe_length]; omega), if_pos (by simp), if_neg h]
    · rw [List.getElem?_set_ne c, wipe_get σ vs i]
      have e : i ∈ v :: vs ↔ i ∈ vs := by
        rw [List.mem_cons]
        exact ⟨fun h => h.resolve_left (fun z => c z.symm), fun h => .inr h⟩
      by_cases q : i ∈ vs
      · rw [if_pos q, if_pos (e.mpr q)]
      · rw [if_neg q, if_neg (fun z => q (e.mp z))]
theorem wipe_agree {σ σ' : L2.St} {vs js : List Nat} (a : Agree js (wipe σ vs) σ') (h : ∀ i ∈ js, i ∈ vs) : wipe σ' vs = wipe σ vs := by
  have hl : σ'.length = σ.length := by rw [a.1, wipe_length]
  refine List.ext_getElem? fun i => ?_
  rw [wipe_get, wipe_get, hl]
  by_cases c : i ∈ vs
  · rw [if_pos c, if_pos c]
  · rw [if_neg c, if_neg c, a.2 i fun z => c (h i z), wipe_get, if_neg c]
section
variable {K : PySem.W.Frag} {T : Tbl} {s : Option Addr} {G0 H0 G G' H H' H1 : Hp} {σ : L2.St} {δ : DE}
theorem rep_wipe (R : Rep K T G0 H0 G H σ δ) : ∀ vs : List Nat, Rep K T G0 H0 G H (wipe σ vs) (wipeD δ vs)
  | [] => R
  | v :: vs => (rep_wipe R vs).setNo
/-- a thing made since is changed -/
theorem Stp.mut (x : Stp T s G G' H H') {p : Addr} {w u : HO} (hp : H p = none) (hg : G' p = none) (hw : H' p = some w) (ow : OwnO w) (hs : ∀ a, s = some a → Src a H) (tab : LamX.Tabs T H') : Stp T s G G' H (upd H' p u) ∧ (∀ a, s = some a → Src a H → Src a (upd H' p u)) ∧ LamX.Tabs T (upd H' p u) := by
  have sp : ∀ a, s = some a → a ≠ p := fun a e z => by
    obtain ⟨q1, q2, q3, _⟩ := hs a e
    rw [z, hp] at q3
    cases q3
  have tab' : LamX.Tabs T (upd H' p u) := fun q hq => by
    obtain ⟨ps, q1, q2, q3⟩ := tab q hq
    have np : q.1 ≠ p := fun z => by
      rw [z, hw] at q1
      exact ow.nt ps (Option.some.inj q1)
    refine ⟨ps, by rw [upd_ne np]; exact q1, q2, fun pos cv hcv => ?_⟩
    obtain ⟨c, e1, e2⟩ := q3 pos cv hcv
    have nc : c ≠ p := fun z => by
      rw [z, hw] at e2
      have z2 := Option.some.inj e2
      rw [z2] at ow
      exact ow
    exact ⟨c, e1, by rw [upd_ne nc]; exact e2⟩
  have src' : ∀ a, s = some a → Src a H → Src a (upd H' p u) := fun a e q => by
    obtain ⟨q1, q2, q3, q4⟩ := x.gr.sr a e q
    exact ⟨q1, q2, by rw [upd_ne (sp a e)]; exact q3, q4⟩
  refine ⟨⟨⟨fun b o e => ?_, fun b hb => ?_, src', fun _ => tab'⟩, x.gg, fun b o e => ?_, x.nw⟩, src', tab'⟩
  · have ne : b ≠ p := fun z => by
      have q := (vw_of e).1
      rw [z, hp] at q
      cases q
    obtain ⟨e1, e2, e3⟩ := vw_of (x.gr.ex b o e)
    exact vw_at (by rw [upd_ne ne]; exact e1) e2 e3
  · by_cases c : b = p
    · rw [c, upd_same]
      simp
    · rw [upd_ne c]
      exact x.gr.al b hb
  · have ne : b ≠ p := fun z => by
      rw [z, hg] at e
      cases e
    obtain ⟨e1, e2, e3⟩ := vw_of (x.gv b o e)
    exact vw_at (by rw [upd_ne ne]; exact e1) e2 e3
/-- what holds between two turns of a comprehension that has begun at G1, H1 with its list at L -/
def CInv (K : PySem.W.Frag) (T : Tbl) (s : Option Addr) (G1 H1 : Hp) (L : Addr) (k : List D → Hp → Prop) (H : Hp) : Prop := ∃ G us acc, Stp T s G1 G H1 H ∧ G L = none ∧ H L = some (.lst us) ∧ RpA K G acc us ∧ k acc G
theorem c_start (R : Rep K T G0 H0 G H σ δ) {L : Addr} (hL : H L = none) {k : List D → Hp → Prop} (h : k [] G) : CInv K T δ.s G H L k (upd H L (.lst [])) := ⟨G, [], [], .of_gr R.gv (.new hL), R.gnone hL, upd_same, rfl, h⟩
/-- one turn -/
theorem c_turn {js vs : List Nat} {g : TGD} {c : TDB} {e : TD} {L : Addr} {P : List D → Prop} {r : List D} {d : D} {x : V} {k k' : List D → Hp → Prop} {tot i : Nat} (hjs : ∀ i ∈ js, i ∈ vs) (R : Rep K T G0 H0 G H σ δ) (hL : H L = none) (hz : tot ≤ 100000) (hi : i < tot)
    (hk : ∀ acc G2, k acc G2 → compD g c e (wipeD δ vs) P (d :: r) acc ∧ acc.length ≤ i ∧ Rp K G2 d x) (hk' : ∀ acc acc' G2 G3, k acc G2 → Same G2 G3 → compD g c e (wipeD δ vs) P r acc' → acc'.length ≤ i + 1 → k' acc' G3) (I : CInv K T δ.s G H L k H1) :
    lG K T js g x (wipe σ vs) H1 fun σ2 H2 => wipe σ2 vs = wipe σ vs ∧ lB K T E0 c σ2 H2 fun b H3 => if b = true then lF K T E0 e σ2 H3 fun y H4 => ∃ acc, H4 L = some (.lst acc) ∧ acc.length < sizeLine ∧ CInv K T δ.s G H L k' (upd H4 L (.lst (acc ++ [y]))) else CInv K T δ.s G H L k' H3 := by
  obtain ⟨G2, us, acc, x1, hg, hh, ra, hkk⟩ := I
  obtain ⟨hc, hl, rd⟩ := hk acc G2 hkk
  have R1 := rep_wipe (R.stp x1) vs
  have sL : δ.s ≠ some L := fun z => by
    obtain ⟨p, q, e, _⟩ := R.src L z
    rw [hL] at e
    cases e
  have vL : vw δ.s H1 L = some (.lst us) := vw_at hh sL fun ps z => by cases z
  refine ⟨wipeD δ vs, G0, H0, G2, d, _, R1, rd, hc, fun δ' σ' R' hs ag hp => ⟨wipe_agree ag hjs, ?_⟩⟩
  have es : δ'.s = δ.s := hs.trans (wipeD_s δ vs)
  have L1 : Lv K T E0 G0 H0 G2 H1 σ' δ' noEx := ⟨R', fun c h => h.elim⟩
  refine ⟨δ', G0, H0, G2, _, noEx, L1, hp, fun b hb H3 g3 => ?_⟩
  cases b with
  | false =>
    refine iteF ?_
    rw [es] at g3
    exact ⟨G2, us, acc, x1.trans (.of_gr x1.gv g3), hg, (vw_of (g3.ex _ _ vL)).1, ra, hk' acc acc G2 G2 hkk (.refl _) hb (Nat.le_succ_of_le hl)⟩
  | true =>
    refine iteT ⟨δ', G0, H0, G2, _, noEx, L1.gr g3, hb, fun y hy v H4 G4 x4 ry => ?_⟩
    rw [es] at g3 x4
    have x14 : Stp T δ.s G G4 H H4 := (x1.trans (.of_gr x1.gv g3)).trans x4
    have h4 : H4 L = some (.lst us) := (vw_of (x4.gr.ex _ _ (g3.ex _ _ vL))).1
    have g4 : G4 L = none := by
      cases z : G4 L with
      | none => rfl
      | some u =>
        rcases x14.nw L (by rw [z]; simp) with q | q
        · exact absurd (R.gnone hL) q
        · have := (Stp.gv x14 L u z)
          rcases x4.nw L (by rw [z]; simp) with q2 | q2
          · exact absurd hg q2
          · rw [(vw_of (g3.ex _ _ vL)).1] at q2
            cases q2
    obtain ⟨x5, _, _⟩ := Stp.mut x14 (u := .lst (us ++ [v])) hL g4 h4 trivial R.src (x14.gr.tb R.tab)
    exact ⟨us, h4, by rw [ra.len]; exact Nat.lt_of_lt_of_le (Nat.lt_of_le_of_lt hl hi) (Nat.le_trans hz (by decide)), G4, _, acc ++ [y], x5, g4, upd_same, (ra.mono x4.gg).snoc ry,
      hk' acc _ G2 G4 hkk x4.gg hy (by rw [List.length_append, List.length_singleton]; exact Nat.succ_le_succ hl)⟩
end
section
variable {X : Cx} {T : Tbl} {E : XK} {elt tg iter : Expr} {ifs : List Expr} {scope : Scope} {own : List (Str × Nat)} {pos p p2 : Pos} {js : List Nat} {g : TGD} {c : TDB} {e : TD} {te : TDL} {td : TD} {K : PySem.W.Frag}
/-- tests of a clause -/
theorem pd_ts0 : PTs X [] (lB K T E yesD) := ⟨fun pins s σ H Q I ⟨δ, G0, H0, G, P, EP, L, ht, k⟩ => pts_nil.run pins s σ H Q I (k true ht H .refl)⟩
theorem pd_ts1 {a : Expr} {t : TDB} (h : PT X a (lB K T E t)) : PTs X [a] (lB K T E t) := pts_one h
theorem frz_new {G0 H0 G H G' H' : Hp} {σ : L2.St} {δ : DE} {EP : Addr → Prop} {a : Addr} {us : List V} {ds : List D} (L : Lv K T E G0 H0 G H σ δ EP) (x : Stp T δ.s G G' H H') (h1 : H a = none) (h2 : G' a = none) (h3 : H' a = some (.lst us)) (r : RpA K G' ds us) :
    Stp T δ.s G (upd G' a (.lst us)) H H' ∧ Rp K (upd G' a (.lst us)) (.lst ds) (.ref a) := by
  have sa : δ.s ≠ some a := fun z => by
    obtain ⟨p, q, e, _⟩ := L.rep.src a z
    rw [h1] at e
    cases e
  refine ⟨⟨x.gr, (x.gg).trans (Wn.Same.new h2), fun b o e => ?_, fun b hb => ?_⟩, a, us, rfl, upd_same, r.mono (Wn.Same.new h2)⟩
  · by_cases c : b = a
    · rw [c, upd_same] at e
      cases e
      rw [c]
      exact vw_at h3 sa fun ps z => by cases z
    · rw [upd_ne c] at e
      exact x.gv b o e
  · by_cases c : b = a
    · rw [c]
      exact .inr h1
    · rw [upd_ne c] at hb
      exact x.nw b hb
theorem rd_lc {vs : List Nat} (hjs : ∀ i ∈ js, i ∈ vs) : ∀ (σ : L2.St) (H : Hp) (Q : VK), lN K T E (tLc te vs g c e) σ H Q → L2.tLc (iList K (lL K T E te)) (lG K T js g) (lB K T E0 c) (lF K T E0 e) vs σ H Q :=
  fun σ H Q ⟨δ, G0, H0, G, P, EP, L, hh, k⟩ => ⟨δ, G0, H0, G, _, EP, L, hh, fun ds hd a us H1 G1 x1 e1 r1 => by
    obtain ⟨hz, hd⟩ : ds.length ≤ 100000 ∧ compD g c e (wipeD δ vs) P ds [] := by
      unfold szOk at hd
      cases q : Nat.ble ds.length 100000 with
      | true =>
        rw [q] at hd
        exact ⟨Nat.le_of_ble_eq_true q, hd⟩
      | false =>
        rw [q] at hd
        exact hd.elim
    have R1 := (L.stp x1).rep
    refine ⟨a, rfl, ⟨us, .of (vw_sub _ _ e1)⟩, fun D hD => ?_⟩
    refine lc_list (K := K) (a := a) (xs := us) (fun i => CInv K T δ.s G1 H1 D fun acc G2 => compD g c e (wipeD δ vs) P (ds.drop i) acc ∧ acc.length ≤ i ∧ RpA K G2 ds us) (c_start R1 hD ⟨hd, Nat.le_refl _, r1⟩) (fun i H2 _ ⟨G2, ws, acc, x2, _⟩ => .of (vw_sub _ _ (x2.gr.ex _ _ e1))) (fun i x H2 hx I => ?_) fun H2 I => ?_
    · have hil : i < ds.length := by
        rw [← r1.len]
        exact (List.getElem?_eq_some_iff.mp hx).1
      refine c_turn (P := P) (r := ds.drop (i + 1)) (d := ds[i]) (tot := ds.length) (i := i) hjs R1 hD hz hil (fun acc G2 ⟨h1, h2, h3⟩ => ?_) (fun acc acc' G2 G3 ⟨_, _, h3⟩ s23 h1 h2 => ⟨h1, h2, h3.mono s23⟩) I
      rw [List.drop_eq_getElem_cons hil] at h1
      obtain ⟨y, hy, ry⟩ := h3.get (List.getElem?_eq_getElem hil)
      rw [hx] at hy
      cases hy
      exact ⟨h1, h2, ry⟩
    · obtain ⟨G2, ws, acc, x2, h2, h3, h4, h5, _⟩ := I
      rw [r1.len, List.drop_length] at h5
      exact k acc h5 D ws H2 G2 (x1.trans x2) (x1.gr.none_of hD) h2 h3 h4⟩
theorem rd_lcT {vs : List Nat} (hjs : ∀ i ∈ js, i ∈ vs) : ∀ (σ : L2.St) (H : Hp) (Q : VK), lN K T E (tLc (tTupI td) vs g c e) σ H Q → L2.tLc (iTup K (lF K T E td)) (lG K T js g) (lB K T E0 c) (lF K T E0 e) vs σ H Q :=
  fun σ H Q ⟨δ, G0, H0, G, P, EP, L, hh, k⟩ => ⟨δ, G0, H0, G, _, EP, L, hh, fun d hd v H1 G1 x1 r1 => by
    cases d with
    | tup ds =>
      have hd : szOk ds.length (compD g c e (wipeD δ vs) P ds []) := hd
      obtain ⟨hz, hd⟩ : ds.length ≤ 100000 ∧ compD g c e (wipeD δ vs) P ds [] := by
        unfold szOk at hd
        cases q : Nat.ble ds.length 100000 with
        | true =>
          rw [q] at hd
          exact ⟨Nat.le_of_ble_eq_true q, hd⟩
        | false =>
          rw [q] at hd
          exact hd.elim
      obtain ⟨a, us, ev, e1, r1⟩ := r1
      have R1 := (L.stp x1).rep
      refine ⟨a, ev, ⟨us, .of (vw_sub _ _ (x1.gv _ _ e1))⟩, fun D hD => ?_⟩
      refine lc_tup (K := K) (a := a) (xs := us) (fun i => CInv K T δ.s G1 H1 D fun acc G2 => compD g c e (wipeD δ vs) P (ds.drop i) acc ∧ acc.length ≤ i ∧ RpA K G2 ds us) (c_start R1 hD ⟨hd, Nat.le_refl _, r1⟩) (fun i H2 _ ⟨G2, ws, acc, x2, _⟩ => .of (vw_sub _ _ (x2.gr.ex _ _ (x1.gv _ _ e1)))) (fun i x H2 hx I => ?_) fun H2 I => ?_
      · have hil : i < ds.length := by
          rw [← r1.len]
          exact (List.getElem?_eq_some_iff.mp hx).1
        refine c_turn (P := P) (r := ds.drop (i + 1)) (d := ds[i]) (tot := ds.length) (i := i) hjs R1 hD hz hil (fun acc G2 ⟨h1, h2, h3⟩ => ?_) (fun acc acc' G2 G3 ⟨_, _, h3⟩ s23 h1 h2 => ⟨h1, h2, h3.mono s23⟩) I
        rw [List.drop_eq_getElem_cons hil] at h1
        obtain ⟨y, hy, ry⟩ := h3.get (List.getElem?_eq_getElem hil)
        rw [hx] at hy
        cases hy
        exact ⟨h1, h2, ry⟩
      · obtain ⟨G2, ws, acc, x2, h2, h3, h4, h5, _⟩ := I
        rw [r1.len, List.drop_length] at h5
        exact k acc h5 D ws H2 G2 (x1.trans x2) (x1.gr.none_of hD) h2 h3 h4
    | _ => exact hd.elim⟩
/-- over a range -/
theorem lc_rg {σ : L2.St} {G0 H0 G H1 : Hp} {δ : DE} {lo : Int} {n : Nat} {P : List D → Prop} {D : Addr} {Qd : Hp → Prop} {vs : List Nat} (hjs : ∀ i ∈ js, i ∈ vs) (R1 : Rep K T G0 H0 G H1 σ δ) (hD : H1 D = none) (hd : szOk (rgD lo n).length (compD g c e (wipeD δ vs) P (rgD lo n) []))
    (hq : ∀ H2 G2 ws acc, Stp T δ.s G G2 H1 H2 → G2 D = none → H2 D = some (.lst ws) → RpA K G2 acc ws → P acc → Qd H2) :
    ∃ W : Nat → Nat → Hp → Prop, (∃ m, W 0 m (upd H1 D (.lst []))) ∧ ∀ i m H, W i m H →
      ((Itr lo n).stop i H ∧ Qd H) ∨ ((Itr lo n).go i H ∧ ∃ Nx : Hp → Prop, (∀ H', Nx H' → ∃ m', m' < m ∧ W (i + 1) m' H') ∧ ∀ x H', (Itr lo n).yld i H x H' → lG K T js g x (wipe σ vs) H' fun σ2 H2 => wipe σ2 vs = wipe σ vs ∧ lB K T E0 c σ2 H2 fun b H3 =>
        if b = true then lF K T E0 e σ2 H3 fun y H4 => ∃ acc, H4 D = some (.lst acc) ∧ acc.length < sizeLine ∧ Nx (upd H4 D (.lst (acc ++ [y]))) else Nx H3) := by
  obtain ⟨hz, hd⟩ : n ≤ 100000 ∧ compD g c e (wipeD δ vs) P (rgD lo n) [] := by
    rw [rgD_len] at hd
    unfold szOk at hd
    cases q : Nat.ble n 100000 with
    | true =>
      rw [q] at hd
      exact ⟨Nat.le_of_ble_eq_true q, hd⟩
    | false =>
      rw [q] at hd
      exact hd.elim
  refine lc_range (fun i => CInv K T δ.s G H1 D fun acc G2 => compD g c e (wipeD δ vs) P ((rgD lo n).drop i) acc ∧ acc.length ≤ i) (c_start R1 hD ⟨hd, Nat.le_refl _⟩) (fun i H2 hi I => ?_) fun H2 I => ?_
  · refine c_turn (P := P) (r := (rgD lo n).drop (i + 1)) (d := .int (lo + i)) (tot := n) (i := i) hjs R1 hD hz hi (fun acc G2 ⟨h1, h2⟩ => ?_) (fun acc acc' G2 G3 _ s23 h1 h2 => ⟨h1, h2⟩) I
    rw [rgD_get hi] at h1
    exact ⟨h1, h2, rfl⟩
  · obtain ⟨G2, ws, acc, x2, h2, h3, h4, h5, _⟩ := I
    rw [List.drop_eq_nil_of_le (by rw [rgD_len]; exact Nat.le_refl _)] at h5
    exact hq H2 G2 ws acc x2 h2 h3 h4 h5
theorem rd_lcR1 {vs : List Nat} (hjs : ∀ i ∈ js, i ∈ vs) : ∀ (σ : L2.St) (H : Hp) (Q : VK), lN K T E (tLc (tRg1 te) vs g c e) σ H Q → L2.tLc (iRng1 (lAR K T E te)) (lG K T js g) (lB K T E0 c) (lF K T E0 e) vs σ H Q :=
  fun σ H Q ⟨δ, G0, H0, G, P, EP, L, hh, k⟩ => ⟨δ, G0, H0, G, _, EP, L, hh, fun ds hd vs H1 g1 r => by
    split at hd
    · obtain ⟨v, ev, e1⟩ := RpA.one r
      exact ⟨_, by rw [ev, show v = _ from e1], hd.1.1, hd.1.2, fun D hD => lc_rg hjs (L.gr g1).rep hD hd.2 fun H2 G2 ws acc x2 h2 h3 h4 h5 => k acc h5 D ws H2 G2 ((Stp.of_gr L.rep.gv g1).trans x2) (g1.none_of hD) h2 h3 h4⟩
    · exact hd.elim⟩
theorem rd_lcR2 {vs : List Nat} (hjs : ∀ i ∈ js, i ∈ vs) : ∀ (σ : L2.St) (H : Hp) (Q : VK), lN K T E (tLc (tRg2 te) vs g c e) σ H Q → L2.tLc (iRng2 (lAR K T E te)) (lG K T js g) (lB K T E0 c) (lF K T E0 e) vs σ H Q :=
  fun σ H Q ⟨δ, G0, H0, G, P, EP, L, hh, k⟩ => ⟨δ, G0, H0, G, _, EP, L, hh, fun ds hd vs H1 g1 r => by
    split at hd
    · obtain ⟨v, v', ev, e1, e2⟩ := RpA.two r
      exact ⟨_, _, by rw [ev, show v = _ from e1, show v' = _ from e2], hd.1, fun D hD => lc_rg hjs (L.gr g1).rep hD hd.2 fun H2 G2 ws acc x2 h2 h3 h4 h5 => k acc h5 D ws H2 G2 ((Stp.of_gr L.rep.gv g1).trans x2) (g1.none_of hD) h2 h3 h4⟩
    · exact hd.elim⟩
theorem pd_lc (hc : X.calm = true) (hN : X.N.Nodup) (hi : PE X iter (lL X.K T E te)) (ok : BlkOk X.N X.env.scope scope own) (hjs : ∀ i ∈ js, i ∈ own.map (·.2))
    (hg : ∀ (s : Shared) (H : Hp) (C : Addr) (cl : List (Str × Addr)) (fp : List Addr), PG (X.blk s H scope (compEnvC scope cl C X.env) fp) tg (lG X.K T js g)) (ht : ∀ (s : Shared) (H : Hp) (C : Addr) (cl : List (Str × Addr)) (fp : List Addr), PTs (X.blk s H scope (compEnvC scope cl C X.env) fp) ifs (lB X.K T E0 c))
    (he : ∀ (s : Shared) (H : Hp) (C : Addr) (cl : List (Str × Addr)) (fp : List Addr), PE (X.blk s H scope (compEnvC scope cl C X.env) fp) elt (lF X.K T E0 e)) (hs : ∀ x, foldedSetIterable iter X.env x = pure x := by intro _; rfl) :
    PE X (.ListComp elt [⟨tg, iter, ifs, 0⟩] scope pos) (lN X.K T E (tLc te (own.map (·.2)) g c e)) := pe_imp (pe_lc hc hN (pi_list hi) ok hg ht he hs) (rd_lc hjs)
theorem pd_setLc (i : Nat) {y : Str} {py spos : Pos} (hc : X.calm = true) (hN : X.N.Nodup) (hi : PE X iter (lL X.K T E te)) (ok : BlkOk X.N X.env.scope scope own) (hjs : ∀ i ∈ js, i ∈ own.map (·.2))
    (hg : ∀ (s : Shared) (H : Hp) (C : Addr) (cl : List (Str × Addr)) (fp : List Addr), PG (X.blk s H scope (compEnvC scope cl C X.env) fp) tg (lG X.K T js g)) (ht : ∀ (s : Shared) (H : Hp) (C : Addr) (cl : List (Str × Addr)) (fp : List Addr), PTs (X.blk s H scope (compEnvC scope cl C X.env) fp) ifs (lB X.K T E0 c))
    (he : ∀ (s : Shared) (H : Hp) (C : Addr) (cl : List (Str × Addr)) (fp : List Addr), PE (X.blk s H scope (compEnvC scope cl C X.env) fp) elt (lF X.K T E0 e))
    (hsw : swapsWith (.ListComp elt [⟨tg, iter, ifs, 0⟩] scope pos) (some (.Name y py)) spos.line X.env = pure true) (hy : X.N[i]? = some y := by rfl) (hyl : X.env.scope.names.lookup y = some .local := by rfl) (hs : ∀ x, foldedSetIterable iter X.env x = pure x := by intro _; rfl) :
    PS X (.Assign [.Name y py] (.ListComp elt [⟨tg, iter, ifs, 0⟩] scope pos) spos) (lS X.K T E (tSetN i (tLc te (own.map (·.2)) g c e))) :=
  ps_imp (ps_setLc hc hN hy hyl hsw (pi_list hi) ok hg ht he hs) fun D σ H ⟨δ, G0, H0, G, Z, R, h, F⟩ => rd_lc hjs σ H _ ⟨δ, G0, H0, G, _, _, F.lv R, h, fun ds hd a us H' G' x h1 h2 h3 r => F.nx _ G' _ H' x.gg (rep_setN R x h1 h2 h3 r) hd⟩
theorem pd_setLf (i : Nat) {y : Str} {py spos : Pos} (hc : X.calm = true) (hN : X.N.Nodup) (hi : PE X iter (lL X.K T E te)) (ok : BlkOk X.N X.env.scope scope own) (hjs : ∀ i ∈ js, i ∈ own.map (·.2))
    (hg : ∀ (s : Shared) (H : Hp) (C : Addr) (cl : List (Str × Addr)) (fp : List Addr), PG (X.blk s H scope (compEnvC scope cl C X.env) fp) tg (lG X.K T js g)) (ht : ∀ (s : Shared) (H : Hp) (C : Addr) (cl : List (Str × Addr)) (fp : List Addr), PTs (X.blk s H scope (compEnvC scope cl C X.env) fp) ifs (lB X.K T E0 c))
    (he : ∀ (s : Shared) (H : Hp) (C : Addr) (cl : List (Str × Addr)) (fp : List Addr), PE (X.blk s H scope (compEnvC scope cl C X.env) fp) elt (lF X.K T E0 e))
    (hsw : swapsWith (.ListComp elt [⟨tg, iter, ifs, 0⟩] scope pos) (some (.Name y py)) spos.line X.env = pure true) (hy : X.N[i]? = some y := by rfl) (hyl : X.env.scope.names.lookup y = some .local := by rfl) (hs : ∀ x, foldedSetIterable iter X.env x = pure x := by intro _; rfl) :
    PS X (.Assign [.Name y py] (.ListComp elt [⟨tg, iter, ifs, 0⟩] scope pos) spos) (lS X.K T E (tSet i (tNF (tLc te (own.map (·.2)) g c e)))) :=
  ps_imp (ps_setLc hc hN hy hyl hsw (pi_list hi) ok hg ht he hs) fun D σ H ⟨δ, G0, H0, G, Z, R, h, F⟩ => rd_lc hjs σ H _ ⟨δ, G0, H0, G, _, _, F.lv R, h, fun ds hd a us H' G' x h1 h2 h3 r => by
    obtain ⟨x2, r2⟩ := frz_new (F.lv R) x h1 h2 h3 r
    exact F.nx _ _ _ H' x2.gg ((R.stp x2).setD r2) hd⟩
theorem pd_lcT (hc : X.calm = true) (hN : X.N.Nodup) (hi : PE X iter (lF X.K T E td)) (ok : BlkOk X.N X.env.scope scope own) (hjs : ∀ i ∈ js, i ∈ own.map (·.2))
    (hg : ∀ (s : Shared) (H : Hp) (C : Addr) (cl : List (Str × Addr)) (fp : List Addr), PG (X.blk s H scope (compEnvC scope cl C X.env) fp) tg (lG X.K T js g)) (ht : ∀ (s : Shared) (H : Hp) (C : Addr) (cl : List (Str × Addr)) (fp : List Addr), PTs (X.blk s H scope (compEnvC scope cl C X.env) fp) ifs (lB X.K T E0 c))
    (he : ∀ (s : Shared) (H : Hp) (C : Addr) (cl : List (Str × Addr)) (fp : List Addr), PE (X.blk s H scope (compEnvC scope cl C X.env) fp) elt (lF X.K T E0 e)) (hs : ∀ x, foldedSetIterable iter X.env x = pure x := by intro _; rfl) :
    PE X (.ListComp elt [⟨tg, iter, ifs, 0⟩] scope pos) (lN X.K T E (tLc (tTupI td) (own.map (·.2)) g c e)) := pe_imp (pe_lc hc hN (pi_tup hi) ok hg ht he hs) (rd_lcT hjs)
theorem pd_setLcT (i : Nat) {y : Str} {py spos : Pos} (hc : X.calm = true) (hN : X.N.Nodup) (hi : PE X iter (lF X.K T E td)) (ok : BlkOk X.N X.env.scope scope own) (hjs : ∀ i ∈ js, i ∈ own.map (·.2))
    (hg : ∀ (s : Shared) (H : Hp) (C : Addr) (cl : List (Str × Addr)) (fp : List Addr), PG (X.blk s H scope (compEnvC scope cl C X.env) fp) tg (lG X.K T js g)) (ht : ∀ (s : Shared) (H : Hp) (C : Addr) (cl : List (Str × Addr)) (fp : List Addr), PTs (X.blk s H scope (compEnvC scope cl C X.env) fp) ifs (lB X.K T E0 c))
    (he : ∀ (s : Shared) (H : Hp) (C : Addr) (cl : List (Str × Addr)) (fp : List Addr), PE (X.blk s H scope (compEnvC scope cl C X.env) fp) elt (lF X.K T E0 e))
    (hsw : swapsWith (.ListComp elt [⟨tg, iter, ifs, 0⟩] scope pos) (some (.Name y py)) spos.line X.env = pure true) (hy : X.N[i]? = some y := by rfl) (hyl : X.env.scope.names.lookup y = some .local := by rfl) (hs : ∀ x, foldedSetIterable iter X.env x = pure x := by intro _; rfl) :
    PS X (.Assign [.Name y py] (.ListComp elt [⟨tg, iter, ifs, 0⟩] scope pos) spos) (lS X.K T E (tSetN i (tLc (tTupI td) (own.map (·.2)) g c e))) :=
  ps_imp (ps_setLc hc hN hy hyl hsw (pi_tup hi) ok hg ht he hs) fun D σ H ⟨δ, G0, H0, G, Z, R, h, F⟩ => rd_lcT hjs σ H _ ⟨δ, G0, H0, G, _, _, F.lv R, h, fun ds hd a us H' G' x h1 h2 h3 r => F.nx _ G' _ H' x.gg (rep_setN R x h1 h2 h3 r) hd⟩
theorem pd_setLfT (i : Nat) {y : Str} {py spos : Pos} (hc : X.calm = true) (hN : X.N.Nodup) (hi : PE X iter (lF X.K T E td)) (ok : BlkOk X.N X.env.scope scope own) (hjs : ∀ i ∈ js, i ∈ own.map (·.2))
    (hg : ∀ (s : Shared) (H : Hp) (C : Addr) (cl : List (Str × Addr)) (fp : List Addr), PG (X.blk s H scope (compEnvC scope cl C X.env) fp) tg (lG X.K T js g)) (ht : ∀ (s : Shared) (H : Hp) (C : Addr) (cl : List (Str × Addr)) (fp : List Addr), PTs (X.blk s H scope (compEnvC scope cl C X.env) fp) ifs (lB X.K T E0 c))
    (he : ∀ (s : Shared) (H : Hp) (C : Addr) (cl : List (Str × Addr)) (fp : List Addr), PE (X.blk s H scope (compEnvC scope cl C X.env) fp) elt (lF X.K T E0 e))
    (hsw : swapsWith (.ListComp elt [⟨tg, iter, ifs, 0⟩] scope pos) (some (.Name y py)) spos.line X.env = pure true) (hy : X.N[i]? = some y := by rfl) (hyl : X.env.scope.names.lookup y = some .local := by rfl) (hs : ∀ x, foldedSetIterable iter X.env x = pure x := by intro _; rfl) :
    PS X (.Assign [.Name y py] (.ListComp elt [⟨tg, iter, ifs, 0⟩] scope pos) spos) (lS X.K T E (tSet i (tNF (tLc (tTupI td) (own.map (·.2)) g c e)))) :=
  ps_imp (ps_setLc hc hN hy hyl hsw (pi_tup hi) ok hg ht he hs) fun D σ H ⟨δ, G0, H0, G, Z, R, h, F⟩ => rd_lcT hjs σ H _ ⟨δ, G0, H0, G, _, _, F.lv R, h, fun ds hd a us H' G' x h1 h2 h3 r => by
    obtain ⟨x2, r2⟩ := frz_new (F.lv R) x h1 h2 h3 r
    exact F.nx _ _ _ H' x2.gg ((R.stp x2).setD r2) hd⟩
theorem pd_lcR1 {a : Expr} (hc : X.calm = true) (hN : X.N.Nodup) (hm : X.mg "range" = none) (ha : PA X [a] (lAR X.K T E te)) (ok : BlkOk X.N X.env.scope scope own) (hjs : ∀ i ∈ js, i ∈ own.map (·.2))
    (hg : ∀ (s : Shared) (H : Hp) (C : Addr) (cl : List (Str × Addr)) (fp : List Addr), PG (X.blk s H scope (compEnvC scope cl C X.env) fp) tg (lG X.K T js g)) (ht : ∀ (s : Shared) (H : Hp) (C : Addr) (cl : List (Str × Addr)) (fp : List Addr), PTs (X.blk s H scope (compEnvC scope cl C X.env) fp) ifs (lB X.K T E0 c))
    (he : ∀ (s : Shared) (H : Hp) (C : Addr) (cl : List (Str × Addr)) (fp : List Addr), PE (X.blk s H scope (compEnvC scope cl C X.env) fp) elt (lF X.K T E0 e)) (hgr : Gl X "range" := by rfl) (hs1 : starEach [a] X.env = [(false, eval a X.env)] := by rfl) (hs : ∀ x, foldedSetIterable (.Call (.Name "range" p) [a] [] p2) X.env x = pure x := by intro _; rfl) :
    PE X (.ListComp elt [⟨tg, (.Call (.Name "range" p) [a] [] p2), ifs, 0⟩] scope pos) (lN X.K T E (tLc (tRg1 te) (own.map (·.2)) g c e)) := pe_imp (pe_lc hc hN (pi_range1 hgr hm ha hs1) ok hg ht he hs) (rd_lcR1 hjs)
theorem pd_setLcR1 {a : Expr} (i : Nat) {y : Str} {py spos : Pos} (hc : X.calm = true) (hN : X.N.Nodup) (hm : X.mg "range" = none) (ha : PA X [a] (lAR X.K T E te)) (ok : BlkOk X.N X.env.scope scope own) (hjs : ∀ i ∈ js, i ∈ own.map (·.2))
    (hg : ∀ (s : Shared) (H : Hp) (C : Addr) (cl : List (Str × Addr)) (fp : List Addr), PG (X.blk s H scope (compEnvC scope cl C X.env) fp) tg (lG X.K T js g)) (ht : ∀ (s : Shared) (H : Hp) (C : Addr) (cl : List (Str × Addr)) (fp : List Addr), PTs (X.blk s H scope (compEnvC scope cl C X.env) fp) ifs (lB X.K T E0 c))
    (he : ∀ (s : Shared) (H : Hp) (C : Addr) (cl : List (Str × Addr)) (fp : List Addr), PE (X.blk s H scope (compEnvC scope cl C X.env) fp) elt (lF X.K T E0 e))
    (hsw : swapsWith (.ListComp elt [⟨tg, (.Call (.Name "range" p) [a] [] p2), ifs, 0⟩] scope pos) (some (.Name y py)) spos.line X.env = pure true) (hy : X.N[i]? = some y := by rfl) (hyl : X.env.scope.names.lookup y = some .local := by rfl) (hgr : Gl X "range" := by rfl) (hs1 : starEach [a] X.env = [(false, eval a X.env)] := by rfl) (hs : ∀ x, foldedSetIterable (.Call (.Name "range" p) [a] [] p2) X.env x = pure x := by intro _; rfl) :
    PS X (.Assign [.Name y py] (.ListComp elt [⟨tg, (.Call (.Name "range" p) [a] [] p2), ifs, 0⟩] scope pos) spos) (lS X.K T E (tSetN i (tLc (tRg1 te) (own.map (·.2)) g c e))) :=
  ps_imp (ps_setLc hc hN hy hyl hsw (pi_range1 hgr hm ha hs1) ok hg ht he hs) fun D σ H ⟨δ, G0, H0, G, Z, R, h, F⟩ => rd_lcR1 hjs σ H _ ⟨δ, G0, H0, G, _, _, F.lv R, h, fun ds hd a us H' G' x h1 h2 h3 r => F.nx _ G' _ H' x.gg (rep_setN R x h1 h2 h3 r) hd⟩
theorem pd_setLfR1 {a : Expr} (i : Nat) {y : Str} {py spos : Pos} (hc : X.calm = true) (hN : X.N.Nodup) (hm : X.mg "range" = none) (ha : PA X [a] (lAR X.K T E te)) (ok : BlkOk X.N X.env.scope scope own) (hjs : ∀ i ∈ js, i ∈ own.map (·.2))
    (hg : ∀ (s : Shared) (H : Hp) (C : Addr) (cl : List (Str × Addr)) (fp : List Addr), PG (X.blk s H scope (compEnvC scope cl C X.env) fp) tg (lG X.K T js g)) (ht : ∀ (s : Shared) (H : Hp) (C : Addr) (cl : List (Str × Addr)) (fp : List Addr), PTs (X.blk s H scope (compEnvC scope cl C X.env) fp) ifs (lB X.K T E0 c))
    (he : ∀ (s : Shared) (H : Hp) (C : Addr) (cl : List (Str × Addr)) (fp : List Addr), PE (X.blk s H scope (compEnvC scope cl C X.env) fp) elt (lF X.K T E0 e))
    (hsw : swapsWith (.ListComp elt [⟨tg, (.Call (.Name "range" p) [a] [] p2), ifs, 0⟩] scope pos) (some (.Name y py)) spos.line X.env = pure true) (hy : X.N[i]? = some y := by rfl) (hyl : X.env.scope.names.lookup y = some .local := by rfl) (hgr : Gl X "range" := by rfl) (hs1 : starEach [a] X.env = [(false, eval a X.env)] := by rfl) (hs : ∀ x, foldedSetIterable (.Call (.Name "range" p) [a] [] p2) X.env x = pure x := by intro _; rfl) :
    PS X (.Assign [.Name y py] (.ListComp elt [⟨tg, (.Call (.Name "range" p) [a] [] p2), ifs, 0⟩] scope pos) spos) (lS X.K T E (tSet i (tNF (tLc (tRg1 te) (own.map (·.2)) g c e)))) :=
  ps_imp (ps_setLc hc hN hy hyl hsw (pi_range1 hgr hm ha hs1) ok hg ht he hs) fun D σ H ⟨δ, G0, H0, G, Z, R, h, F⟩ => rd_lcR1 hjs σ H _ ⟨δ, G0, H0, G, _, _, F.lv R, h, fun ds hd a us H' G' x h1 h2 h3 r => by
    obtain ⟨x2, r2⟩ := frz_new (F.lv R) x h1 h2 h3 r
    exact F.nx _ _ _ H' x2.gg ((R.stp x2).setD r2) hd⟩
theorem pd_lcR2 {a a2 : Expr} (hc : X.calm = true) (hN : X.N.Nodup) (hm : X.mg "range" = none) (ha : PA X [a, a2] (lAR X.K T E te)) (ok : BlkOk X.N X.env.scope scope own) (hjs : ∀ i ∈ js, i ∈ own.map (·.2))
    (hg : ∀ (s : Shared) (H : Hp) (C : Addr) (cl : List (Str × Addr)) (fp : List Addr), PG (X.blk s H scope (compEnvC scope cl C X.env) fp) tg (lG X.K T js g)) (ht : ∀ (s : Shared) (H : Hp) (C : Addr) (cl : List (Str × Addr)) (fp : List Addr), PTs (X.blk s H scope (compEnvC scope cl C X.env) fp) ifs (lB X.K T E0 c))
    (he : ∀ (s : Shared) (H : Hp) (C : Addr) (cl : List (Str × Addr)) (fp : List Addr), PE (X.blk s H scope (compEnvC scope cl C X.env) fp) elt (lF X.K T E0 e)) (hgr : Gl X "range" := by rfl) (hs1 : starEach [a, a2] X.env = [(false, eval a X.env), (false, eval a2 X.env)] := by rfl) (hs2 : starEach [a2] X.env = [(false, eval a2 X.env)] := by rfl) (hs : ∀ x, foldedSetIterable (.Call (.Name "range" p) [a, a2] [] p2) X.env x = pure x := by intro _; rfl) :
    PE X (.ListComp elt [⟨tg, (.Call (.Name "range" p) [a, a2] [] p2), ifs, 0⟩] scope pos) (lN X.K T E (tLc (tRg2 te) (own.map (·.2)) g c e)) := pe_imp (pe_lc hc hN (pi_range2 hgr hm ha hs1 hs2) ok hg ht he hs) (rd_lcR2 hjs)
theorem pd_setLcR2 {a a2 : Expr} (i : Nat) {y : Str} {py spos : Pos} (hc : X.calm = true) (hN : X.N.Nodup) (hm : X.mg "range" = none) (ha : PA X [a, a2] (lAR X.K T E te)) (ok : BlkOk X.N X.env.scope scope own) (hjs : ∀ i ∈ js, i ∈ own.map (·.2))
    (hg : ∀ (s : Shared) (H : Hp) (C : Addr) (cl : List (Str × Addr)) (fp : List Addr), PG (X.blk s H scope (compEnvC scope cl C X.env) fp) tg (lG X.K T js g)) (ht : ∀ (s : Shared) (H : Hp) (C : Addr) (cl : List (Str × Addr)) (fp : List Addr), PTs (X.blk s H scope (compEnvC scope cl C X.env) fp) ifs (lB X.K T E0 c))
    (he : ∀ (s : Shared) (H : Hp) (C : Addr) (cl : List (Str × Addr)) (fp : List Addr), PE (X.blk s H scope (compEnvC scope cl C X.env) fp) elt (lF X.K T E0 e))
    (hsw : swapsWith (.ListComp elt [⟨tg, (.Call (.Name "range" p) [a, a2] [] p2), ifs, 0⟩] scope pos) (some (.Name y py)) spos.line X.env = pure true) (hy : X.N[i]? = some y := by rfl) (hyl : X.env.scope.names.lookup y = some .local := by rfl) (hgr : Gl X "range" := by rfl) (hs1 : starEach [a, a2] X.env = [(false, eval a X.env), (false, eval a2 X.env)] := by rfl) (hs2 : starEach [a2] X.env = [(false, eval a2 X.env)] := by rfl) (hs : ∀ x, foldedSetIterable (.Call (.Name "range" p) [a, a2] [] p2) X.env x = pure x := by intro _; rfl) :
    PS X (.Assign [.Name y py] (.ListComp elt [⟨tg, (.Call (.Name "range" p) [a, a2] [] p2), ifs, 0⟩] scope pos) spos) (lS X.K T E (tSetN i (tLc (tRg2 te) (own.map (·.2)) g c e))) :=
  ps_imp (ps_setLc hc hN hy hyl hsw (pi_range2 hgr hm ha hs1 hs2) ok hg ht he hs) fun D σ H ⟨δ, G0, H0, G, Z, R, h, F⟩ => rd_lcR2 hjs σ H _ ⟨δ, G0, H0, G, _, _, F.lv R, h, fun ds hd a us H' G' x h1 h2 h3 r => F.nx _ G' _ H' x.gg (rep_setN R x h1 h2 h3 r) hd⟩
theorem pd_setLfR2 {a a2 : Expr} (i : Nat) {y : Str} {py spos : Pos} (hc : X.calm = true) (hN : X.N.Nodup) (hm : X.mg "range" = none) (ha : PA X [a, a2] (lAR X.K T E te)) (ok : BlkOk X.N X.env.scope scope own) (hjs : ∀ i ∈ js, i ∈ own.map (·.2))
    (hg : ∀ (s : Shared) (H : Hp) (C : Addr) (cl : List (Str × Addr)) (fp : List Addr), PG (X.blk s H scope (compEnvC scope cl C X.env) fp) tg (lG X.K T js g)) (ht : ∀ (s : Shared) (H : Hp) (C : Addr) (cl : List (Str × Addr)) (fp : List Addr), PTs (X.blk s H scope (compEnvC scope cl C X.env) fp) ifs (lB X.K T E0 c))
    (he : ∀ (s : Shared) (H : Hp) (C : Addr) (cl : List (Str × Addr)) (fp : List Addr), PE (X.blk s H scope (compEnvC scope cl C X.env) fp) elt (lF X.K T E0 e))
    (hsw : swapsWith (.ListComp elt [⟨tg, (.Call (.Name "range" p) [a, a2] [] p2), ifs, 0⟩] scope pos) (some (.Name y py)) spos.line X.env = pure true) (hy : X.N[i]? = some y := by rfl) (hyl : X.env.scope.names.lookup y = some .local := by rfl) (hgr : Gl X "range" := by rfl) (hs1 : starEach [a, a2] X.env = [(false, eval a X.env), (false, eval a2 X.env)] := by rfl) (hs2 : starEach [a2] X.env = [(false, eval a2 X.env)] := by rfl) (hs : ∀ x, foldedSetIterable (.Call (.Name "range" p) [a, a2] [] p2) X.env x = pure x := by intro _; rfl) :
    PS X (.Assign [.Name y py] (.ListComp elt [⟨tg, (.Call (.Name "range" p) [a, a2] [] p2), ifs, 0⟩] scope pos) spos) (lS X.K T E (tSet i (tNF (tLc (tRg2 te) (own.map (·.2)) g c e)))) :=
  ps_imp (ps_setLc hc hN hy hyl hsw (pi_range2 hgr hm ha hs1 hs2) ok hg ht he hs) fun D σ H ⟨δ, G0, H0, G, Z, R, h, F⟩ => rd_lcR2 hjs σ H _ ⟨δ, G0, H0, G, _, _, F.lv R, h, fun ds hd a us H' G' x h1 h2 h3 r => by
    obtain ⟨x2, r2⟩ := frz_new (F.lv R) x h1 h2 h3 r
    exact F.nx _ _ _ H' x2.gg ((R.stp x2).setD r2) hd⟩
end
end Wn

set_option Elab.async false
set_option linter.all false
set_option maxRecDepth 100000
set_option maxHeartbeats 4000000
namespace Wn
open PySem PySem.Spec PyProof.Rows L2
/-- a value to be stored: data, a new list, a new empty dict (keys ints and texts; tuples) -/
inductive MI where
  | f (d : D) | n (xs : List D) | k | t
def MI.slot : MI → Slot
  | .f d => .d d
  | .n xs => .ow xs
  | .k => .oK [] []
  | .t => .oT [] []
def MI.fresh : MI → Bool
  | .f _ => false
  | _ => true
def MiOk (K : PySem.W.Frag) (HS G H : Hp) : MI → V → Prop
  | .f d, v => Rp K G d v
  | .n xs, v => ∃ a us, v = .ref a ∧ HS a = none ∧ G a = none ∧ H a = some (.lst us) ∧ RpA K G xs us
  | .k, v => ∃ a, v = .ref a ∧ HS a = none ∧ G a = none ∧ H a = some (.dK [])
  | .t, v => ∃ a, v = .ref a ∧ HS a = none ∧ G a = none ∧ H a = some (.dT [])
def MisOk (K : PySem.W.Frag) (HS G H : Hp) : List MI → List V → Prop
  | [], vs => vs = []
  | m :: ms, vs => ∃ v r, vs = v :: r ∧ MiOk K HS G H m v ∧ MisOk K HS G H ms r ∧ ∀ a, m.fresh = true → v = .ref a → ∀ b, (∃ i : Nat, (∃ m', ms[i]? = some m' ∧ m'.fresh = true) ∧ r[i]? = some (V.ref b)) → a ≠ b
abbrev TDM := DE → (List MI → Prop) → (Addr → Prop) → Prop
def lM (K : PySem.W.Frag) (T : Tbl) (E : XK) (t : TDM) : TA := fun σ H Q => ∃ δ G0 H0 G P EP, Lv K T E G0 H0 G H σ δ EP ∧ t δ P EP ∧ ∀ ms, P ms → ∀ vs H' G', Stp T δ.s G G' H H' → MisOk K H G' H' ms vs → Q vs H'
def tM0 : TDM := fun _ P _ => P []
def tMF (t : TD) (r : TDM) : TDM := fun δ P EP => t δ (fun d => r δ (fun ms => P (.f d :: ms)) EP) EP
def tMN (t : TDL) (r : TDM) : TDM := fun δ P EP => t δ (fun d => r δ (fun ms => P (.n d :: ms)) EP) EP
def tMK (r : TDM) : TDM := fun δ P EP => r δ (fun ms => P (.k :: ms)) EP
def tMT (r : TDM) : TDM := fun δ P EP => r δ (fun ms => P (.t :: ms)) EP
section
variable {K : PySem.W.Frag} {T : Tbl} {s : Option Addr} {HS HS' G0 H0 G G' H H' : Hp} {σ : L2.St} {δ : DE}
theorem MiOk.new {m : MI} {v : V} (h : MiOk K HS G H m v) (f : m.fresh = true) : ∃ a o, v = .ref a ∧ HS a = none ∧ H a = some o := by
  cases m with
  | f d => cases f
  | n xs =>
    obtain ⟨a, us, e, h1, _, h3, _⟩ := h
    exact ⟨a, _, e, h1, h3⟩
  | k =>
    obtain ⟨a, e, h1, _, h3⟩ := h
    exact ⟨a, _, e, h1, h3⟩
  | t =>
    obtain ⟨a, e, h1, _, h3⟩ := h
    exact ⟨a, _, e, h1, h3⟩
theorem MisOk.back {HS' : Hp} (b : ∀ a, HS a = none → HS' a = none) : ∀ {ms : List MI} {vs : List V}, MisOk K HS G H ms vs → MisOk K HS' G H ms vs
  | [], vs, h => h
  | m :: ms, vs, ⟨v, r, e, h1, h2, h3⟩ => ⟨v, r, e, by
      cases m with
      | f d => exact h1
      | n xs =>
        obtain ⟨a, us, e, q, r⟩ := h1
        exact ⟨a, us, e, b a q, r⟩
      | k =>
        obtain ⟨a, e, q, r⟩ := h1
        exact ⟨a, e, b a q, r⟩
      | t =>
        obtain ⟨a, e, q, r⟩ := h1
        exact ⟨a, e, b a q, r⟩, MisOk.back b h2, h3⟩
theorem MisOk.at_new : ∀ {ms : List MI} {vs : List V}, MisOk K HS G H ms vs → ∀ b, (∃ i : Nat, (∃ m', ms[i]? = some m' ∧ m'.fresh = true) ∧ vs[i]? = some (V.ref b)) → HS b = none ∧ ∃ o, H b = some o
  | [], vs, h, b, ⟨i, ⟨m', hm, _⟩, _⟩ => by simp at hm
  | m :: ms, vs, ⟨v, r, e, h1, h2, h3⟩, b, ⟨i, ⟨m', hm, hf⟩, hv⟩ => by
    rw [e] at hv
    cases i with
    | zero =>
      simp at hm hv
      subst hm
      obtain ⟨a, o, ea, n1, n2⟩ := h1.new hf
      rw [ea] at hv
      cases hv
      exact ⟨n1, o, n2⟩
    | succ i => exact MisOk.at_new h2 b ⟨i, ⟨m', by simpa using hm, hf⟩, by simpa using hv⟩
/-- what was made ahead stands behind a step -/
theorem MiOk.stp (R : Rep K T G0 H0 G H σ δ) (x : Stp T δ.s G G' H H') (hs : ∀ a, δ.s = some a → HS a ≠ none) {m : MI} {v : V} (h : MiOk K HS G H m v) : MiOk K HS G' H' m v := by
  have key : ∀ a o, HS a = none → G a = none → H a = some o → NT o → G' a = none ∧ H' a = some o := fun a o h1 h2 h3 h4 => by
    have c : δ.s ≠ some a := fun z => hs a z h1
    refine ⟨?_, (vw_of (x.gr.ex a o (vw_at h3 c h4))).1⟩
    cases e : G' a with
    | none => rfl
    | some z =>
      rcases x.nw a (by rw [e]; simp) with q | q
      · exact absurd h2 q
      · rw [h3] at q
        cases q
  cases m with
  | f d => exact Rp.mono x.gg d v h
  | n xs =>
    obtain ⟨a, us, e, h1, h2, h3, h4⟩ := h
    obtain ⟨k1, k2⟩ := key a _ h1 h2 h3 fun ps z => by cases z
    exact ⟨a, us, e, h1, k1, k2, h4.mono x.gg⟩
  | k =>
    obtain ⟨a, e, h1, h2, h3⟩ := h
    obtain ⟨k1, k2⟩ := key a _ h1 h2 h3 fun ps z => by cases z
    exact ⟨a, e, h1, k1, k2⟩
  | t =>
    obtain ⟨a, e, h1, h2, h3⟩ := h
    obtain ⟨k1, k2⟩ := key a _ h1 h2 h3 fun ps z => by cases z
    exact ⟨a, e, h1, k1, k2⟩
/-- one value and the rest -/
theorem mis_cons {G1 H1 : Hp} (R : Rep K T G0 H0 G H σ δ) (x1 : Stp T δ.s G G1 H H1) {m : MI} {v : V} (hm : MiOk K H G1 H1 m v) {ms : List MI} {vs : List V} (x2 : Stp T δ.s G1 G' H1 H') (hr : MisOk K H1 G' H' ms vs) : MisOk K H G' H' (m :: ms) (v :: vs) := by
  have hs : ∀ a, δ.s = some a → H a ≠ none := fun a e z => by
    obtain ⟨p, q, w, _⟩ := R.src a e
    rw [z] at w
    cases w
  refine ⟨v, vs, rfl, hm.stp (R.stp x1) x2 hs, hr.back fun a h => x1.gr.none_of h, fun a hf ev b hb z => ?_⟩
  obtain ⟨n1, _⟩ := hr.at_new b hb
  obtain ⟨a', o, ea, _, n2⟩ := hm.new hf
  rw [ev] at ea
  cases ea
  rw [← z, n2] at n1
  cases n1
end
section
variable {X : Cx} {K : PySem.W.Frag} {T : Tbl} {E : XK} {e : Expr} {es : List Expr} {t : TD} {tl : TDL} {r : TDM} {pos : Pos}
theorem pd_m0 : PA X [] (lM K T E tM0) := pa_imp pa_nil fun σ H Q ⟨δ, G0, H0, G, P, EP, L, ht, k⟩ => k [] ht [] H G (.refl L.rep.gv) rfl
theorem pd_mF (h : PE X e (lF K T E t)) (hr : PA X es (lM K T E r)) (hs : starEach (e :: es) X.env = (false, eval e X.env) :: starEach es X.env := by rfl) : PA X (e :: es) (lM K T E (tMF t r)) :=
  pa_imp (pa_cons h hr hs) fun σ H Q ⟨δ, G0, H0, G, P, EP, L, ht, k⟩ => ⟨δ, G0, H0, G, _, EP, L, ht, fun d hd v H1 G1 x1 r1 => ⟨δ, G0, H0, G1, _, EP, L.stp x1, hd, fun ms hms vs H2 G2 x2 r2 =>
    k _ hms _ H2 G2 (x1.trans x2) (mis_cons L.rep x1 (m := .f d) r1 x2 r2)⟩⟩
theorem pd_mN (h : PE X e (lN K T E tl)) (hr : PA X es (lM K T E r)) (hs : starEach (e :: es) X.env = (false, eval e X.env) :: starEach es X.env := by rfl) : PA X (e :: es) (lM K T E (tMN tl r)) :=
  pa_imp (pa_cons h hr hs) fun σ H Q ⟨δ, G0, H0, G, P, EP, L, ht, k⟩ => ⟨δ, G0, H0, G, _, EP, L, ht, fun d hd a us H1 G1 x1 h1 h2 h3 r1 => ⟨δ, G0, H0, G1, _, EP, L.stp x1, hd, fun ms hms vs H2 G2 x2 r2 =>
    k _ hms _ H2 G2 (x1.trans x2) (mis_cons L.rep x1 (m := .n d) ⟨a, us, rfl, h1, h2, h3, r1⟩ x2 r2)⟩⟩
theorem pd_mK (hr : PA X es (lM K T E r)) (hs : starEach (.Dict [] [] pos :: es) X.env = (false, eval (.Dict [] [] pos) X.env) :: starEach es X.env := by rfl) : PA X (.Dict [] [] pos :: es) (lM K T E (tMK r)) :=
  pa_imp (pa_cons pe_dnewK hr hs) fun σ H Q ⟨δ, G0, H0, G, P, EP, L, ht, k⟩ => fun p hp => by
    have x1 : Stp T δ.s G G H (upd H p (.dK [])) := .of_gr L.rep.gv (.new hp)
    exact ⟨δ, G0, H0, G, _, EP, L.stp x1, ht, fun ms hms vs H2 G2 x2 r2 => k _ hms _ H2 G2 (x1.trans x2) (mis_cons L.rep x1 (m := .k) ⟨p, rfl, hp, L.rep.gnone hp, upd_same⟩ x2 r2)⟩
theorem pd_mT (hr : PA X es (lM K T E r)) (hs : starEach (.Dict [] [] pos :: es) X.env = (false, eval (.Dict [] [] pos) X.env) :: starEach es X.env := by rfl) : PA X (.Dict [] [] pos :: es) (lM K T E (tMT r)) :=
  pa_imp (pa_cons pe_dnewT hr hs) fun σ H Q ⟨δ, G0, H0, G, P, EP, L, ht, k⟩ => fun p hp => by
    have x1 : Stp T δ.s G G H (upd H p (.dT [])) := .of_gr L.rep.gv (.new hp)
    exact ⟨δ, G0, H0, G, _, EP, L.stp x1, ht, fun ms hms vs H2 G2 x2 r2 => k _ hms _ H2 G2 (x1.trans x2) (mis_cons L.rep x1 (m := .t) ⟨p, rfl, hp, L.rep.gnone hp, upd_same⟩ x2 r2)⟩
/-- the values are stored, one after another -/
theorem rep_mi {G0 H0 HS G H : Hp} {σ : L2.St} {δ : DE} {i : Nat} {m : MI} {v : V} (R : Rep K T G0 H0 G H σ δ) (h0 : ∀ a, HS a = none → H0 a = none) (hs : ∀ a, δ.s = some a → HS a ≠ none) (h : MiOk K HS G H m v) (hn : ∀ a, m.fresh = true → v = .ref a → ∀ j : Nat, isOwn δ.sl[j]? = true → σ[j]? ≠ some (some (V.ref a))) :
    Rep K T G0 H0 G H (σ.set i (some v)) (δ.set i m.slot) := by
  cases m with
  | f d => exact R.setD h
  | n xs =>
    obtain ⟨a, us, e, h1, h2, h3, h4⟩ := h
    rw [e]
    exact R.setO ⟨a, us, rfl, h0 a h1, fun z => hs a z h1, h2, h3, h4⟩ fun j _ => hn a rfl e j
  | k =>
    obtain ⟨a, e, h1, h2, h3⟩ := h
    rw [e]
    exact R.setO (o := .oK [] []) ⟨a, [], rfl, h0 a h1, fun z => hs a z h1, h2, h3, rfl, rfl⟩ fun j _ => hn a rfl e j
  | t =>
    obtain ⟨a, e, h1, h2, h3⟩ := h
    rw [e]
    exact R.setO (o := .oT [] []) ⟨a, [], rfl, h0 a h1, fun z => hs a z h1, h2, h3, rfl, rfl⟩ fun j _ => hn a rfl e j
theorem set_no {σ : L2.St} {δ : DE} {i : Nat} {m : MI} {v : V} {b : Addr} (hi : i < σ.length) (h : ∀ j : Nat, isOwn δ.sl[j]? = true → σ[j]? ≠ some (some (V.ref b))) (hb : m.fresh = true → v ≠ .ref b) : ∀ j : Nat, isOwn (δ.set i m.slot).sl[j]? = true → (σ.set i (some v))[j]? ≠ some (some (V.ref b)) := fun j hj z => by
  have hj : isOwn (δ.sl.set i m.slot)[j]? = true := hj
  by_cases c : i = j
  · subst c
    rw [List.getElem?_set_self hi] at z
    have z2 : v = .ref b := Option.some.inj (Option.some.inj z)
    cases hf : m.fresh with
    | true => exact hb hf z2
    | false =>
      by_cases hl : i < δ.sl.length
      · rw [List.getElem?_set_self hl] at hj
        cases m with
        | f d => cases hj
        | _ => cases hf
      · rw [List.getElem?_eq_none (by rw [List.length_set]; omega)] at hj
        cases hj
  · rw [List.getElem?_set_ne c] at hj z
    exact h j hj z
def tPar2 (i j : Nat) (t : TDM) : TDS := fun δ Z => t δ (fun ms => match ms with
  | [m, m'] => Z.nx ((δ.set i m.slot).set j m'.slot)
  | _ => False) (Z.ex δ.s)
def tPar3 (i j l : Nat) (t : TDM) : TDS := fun δ Z => t δ (fun ms => match ms with
  | [m, m', m2] => Z.nx (((δ.set i m.slot).set j m'.slot).set l m2.slot)
  | _ => False) (Z.ex δ.s)
theorem pd_par2 (i j : Nat) {x y : Str} {a b : Expr} {px py pt : Pos} {kt k2 pt2} (hc : X.calm = true) (hN : X.N.Nodup) (ha : PA X [a, b] (lM K T E r)) (hw : swappedStores [.Tuple [.Name x px, .Name y py] kt pt] (.Tuple [a, b] k2 pt2) X.env = pure (some [x, y])) (hi : X.N[i]? = some x := by rfl) (hj : X.N[j]? = some y := by rfl) (hij : i ≠ j := by decide)
    (hx : X.env.scope.names.lookup x = some .local := by rfl) (hy : X.env.scope.names.lookup y = some .local := by rfl) (hs : swapsWithSole [.Tuple [.Name x px, .Name y py] kt pt] (.Tuple [a, b] k2 pt2) pos.line X.env = pure false := by rfl) :
    PS X (.Assign [.Tuple [.Name x px, .Name y py] kt pt] (.Tuple [a, b] k2 pt2) pos) (lS K T E (tPar2 i j r)) :=
  ⟨fun pins s σ H D I ⟨δ, G0, H0, G, Z, R, h, F⟩ => (ps_par hc hN hi hj hij hx hy ha hw hs).run pins s σ H D I ⟨δ, G0, H0, G, _, _, F.lv R, h, fun ms hms vs H' G' x r => by
    split at hms
    · rename_i m m'
      obtain ⟨v, r1, e1, h1, h2, h3⟩ := r
      obtain ⟨v', r2, e2, h4, h5, _⟩ := h2
      rw [show r2 = [] from h5] at e2
      rw [e2] at e1 h3
      have hl : σ.length = X.N.length := I.len
      have li : i < σ.length := by rw [hl]; exact (List.getElem?_eq_some_iff.mp hi).1
      have h0 : ∀ a, H a = none → H0 a = none := fun a h => R.st.gr.none_of h
      have hsr : ∀ a, δ.s = some a → H a ≠ none := fun a e z => by
        obtain ⟨p, q, w, _⟩ := R.src a e
        rw [z] at w
        cases w
      have n0 : ∀ (m : MI) (v : V), MiOk K H G' H' m v → ∀ a, m.fresh = true → v = .ref a → ∀ j : Nat, isOwn δ.sl[j]? = true → σ[j]? ≠ some (some (V.ref a)) := fun m v hm a hf ev j hj => by
        obtain ⟨a', o, ea, n1, _⟩ := hm.new hf
        rw [ev] at ea
        cases ea
        exact R.own_ne n1 j hj
      have R1 := rep_mi (i := i) (R.stp x) h0 hsr h1 (n0 m v h1)
      have R2 := rep_mi (i := j) R1 h0 hsr h4 fun a hf ev => set_no li (n0 m' v' h4 a hf ev) fun hf1 z => h3 a hf1 z a ⟨0, ⟨m', rfl, hf⟩, by rw [ev] <;> rfl⟩ rfl
      exact ⟨v, v', e1, F.nx _ G' _ H' x.gg R2 hms⟩
    · exact hms.elim⟩⟩
theorem pd_par3 (i j l : Nat) {x y z : Str} {a b c : Expr} {px py pz pt : Pos} {kt k2 pt2} (hc : X.calm = true) (hN : X.N.Nodup) (ha : PA X [a, b, c] (lM K T E r)) (hw : swappedStores [.Tuple [.Name x px, .Name y py, .Name z pz] kt pt] (.Tuple [a, b, c] k2 pt2) X.env = pure (some [x, y, z])) (hi : X.N[i]? = some x := by rfl) (hj : X.N[j]? = some y := by rfl) (hl : X.N[l]? = some z := by rfl) (hij : i ≠ j := by decide) (hil : i ≠ l := by decide) (hjl : j ≠ l := by decide)
    (hx : X.env.scope.names.lookup x = some .local := by rfl) (hy : X.env.scope.names.lookup y = some .local := by rfl) (hz : X.env.scope.names.lookup z = some .local := by rfl) (hs : swapsWithSole [.Tuple [.Name x px, .Name y py, .Name z pz] kt pt] (.Tuple [a, b, c] k2 pt2) pos.line X.env = pure false := by rfl) :
    PS X (.Assign [.Tuple [.Name x px, .Name y py, .Name z pz] kt pt] (.Tuple [a, b, c] k2 pt2) pos) (lS K T E (tPar3 i j l r)) :=
  ⟨fun pins s σ H D I ⟨δ, G0, H0, G, Z, R, h, F⟩ => (ps_par3 hc hN hi hj hl hij hil hjl hx hy hz ha hw hs).run pins s σ H D I ⟨δ, G0, H0, G, _, _, F.lv R, h, fun ms hms vs H' G' x r => by
    split at hms
    · rename_i m m' m2
      obtain ⟨v, r1, e1, h1, h2, h3⟩ := r
      obtain ⟨v', r2, e2, h4, h5, h6⟩ := h2
      obtain ⟨v2, r3, e3, h7, h8, _⟩ := h5
      rw [show r3 = [] from h8] at e3
      rw [e3] at e2 h6
      rw [e2] at e1 h3
      have hl : σ.length = X.N.length := I.len
      have li : i < σ.length := by rw [hl]; exact (List.getElem?_eq_some_iff.mp hi).1
      have lj : j < (σ.set i (some v)).length := by rw [List.length_set, hl]; exact (List.getElem?_eq_some_iff.mp hj).1
      have h0 : ∀ a, H a = none → H0 a = none := fun a h => R.st.gr.none_of h
      have hsr : ∀ a, δ.s = some a → H a ≠ none := fun a e z => by
        obtain ⟨p, q, w, _⟩ := R.src a e
        rw [z] at w
        cases w
      have n0 : ∀ (m : MI) (v : V), MiOk K H G' H' m v → ∀ a, m.fresh = true → v = .ref a → ∀ j : Nat, isOwn δ.sl[j]? = true → σ[j]? ≠ some (some (V.ref a)) := fun m v hm a hf ev j hj => by
        obtain ⟨a', o, ea, n1, _⟩ := hm.new hf
        rw [ev] at ea
        cases ea
        exact R.own_ne n1 j hj
      have R1 := rep_mi (i := i) (R.stp x) h0 hsr h1 (n0 m v h1)
      have R2 := rep_mi (i := j) R1 h0 hsr h4 fun a hf ev => set_no li (n0 m' v' h4 a hf ev) fun hf1 z => h3 a hf1 z a ⟨0, ⟨m', rfl, hf⟩, by rw [ev] <;> rfl⟩ rfl
      have R3 := rep_mi (i := l) R2 h0 hsr h7 fun a hf ev => set_no lj (set_no li (n0 m2 v2 h7 a hf ev) fun hf1 z => h3 a hf1 z a ⟨1, ⟨m2, rfl, hf⟩, by rw [ev] <;> rfl⟩ rfl) fun hf1 z => h6 a hf1 z a ⟨0, ⟨m2, rfl, hf⟩, by rw [ev] <;> rfl⟩ rfl
      exact ⟨v, v', v2, e1, F.nx _ G' _ H' x.gg R3 hms⟩
    · exact hms.elim⟩⟩
end
end Wn

set_option Elab.async false
set_option linter.all false
set_option maxRecDepth 100000
set_option maxHeartbeats 4000000
namespace Wn
open PySem PySem.Spec PyProof.Rows L2 HotX L2H
section
variable {prog : Program} {w : World} {A : Around} {E : Value → Shared → Prop} {s : Shared}
theorem end_list_hot {it l x1 : Addr} {i : Nat} {items} {Q : Option Value → Shared → Prop} (hot : HotAt A x1 s.heap) (nx : it ≠ x1) (hit : s.heap.IsListIter it l i) (hl : s.heap.IsList l items) (hx : items[i]? = none) (hQ : ∀ h', Heap.ExtBut it s.heap h' → Q none { s with heap := h' }) : wpAny (model prog w) A (pyNext (.ref it)) Q E s := by
  obtain ⟨o, ho, hc, hd⟩ := id hit
  obtain ⟨ol, hol, qc, nl, hdl⟩ := hl
  obtain ⟨hh, o1, vs1, e1, d1, c1⟩ := hot
  unfold pyNext
  refine wpAny_bind (wpAny_attempt (wpAny_callSpecial?_slot (name := Str.ofString "__next__") hit.typeIs slot_listiter_next (wpAny_call_entry slot_listiter_next hit.typeIs entry_listiter_next ?_ (args_listiter_next _))))
  show wpAny _ _ (field (.ref it) 0 >>= _) _ _ s; refine wpAny_bind (wpAny_field ho hd (x := .ref l) rfl ?_)
  show wpAny _ _ (if (Value.ref l == Value.none) = true then _ else _) _ _ s; rw [if_neg (show ¬ ((Value.ref l == Value.none) = true) from Bool.false_ne_true)]
  show wpAny _ _ (field (.ref it) 1 >>= _) _ _ s; refine wpAny_bind (wpAny_field ho hd (x := .int i 0) rfl ?_)
  show wpAny _ _ (seqItems? (.ref l) >>= _) _ _ s; refine wpAny_bind (wpAny_seqItems hol hdl ?_)
  simp only [Int.toNat_natCast, hx]
  refine wpAny_bind (wpAny_rule (wpAny_bind (wpAny_setField ho hd (by simp) ?_)))
  show wpAny _ _ (newExc (.type "StopIteration") [] >>= _) _ _ _; refine wpAny_bind ?_
  simp only [newExc, newTuple]
  refine wpAny_bind (wpAny_newObj_type (wpAny_bind (m := firstArgMember _ _) (wpAny_of_eq (a := Value.none) (by first | rfl | (simp only [firstArgMember]; rfl)) (wpAny_newObj_type ?_ (by size_fits)))) (by size_fits))
  have u1 := (Heap.get?_update_other s.heap (Obj.mapFields (·.setIfInBounds 0 Value.none)) nx).trans e1
  have u2 := Heap.get?_push_of_some { cls := .type "tuple", data := .seq #[] } u1
  refine raiseNew_hot ⟨hh, o1, vs1, Heap.get?_push_of_some _ (Heap.get?_push_of_some _ u1), d1, c1⟩ (Nat.ne_of_lt (Heap.lt_size (Heap.get?_push_of_some _ u1))) (Heap.get?_push_size _ rfl) rfl (by first | (simp; done) | (simp; omega) | (simp only [Array.size_append]; simp; omega)) ?_
  refine wpAny_bind (wpAny_isInstance (T := "StopIteration") (b := true) ⟨_, Heap.get?_update_self _ (Heap.get?_push_size _ rfl) rfl, rfl⟩ isSubtype_stop (wpAny_pure (hQ _ fun b o hb e => ?_)))
  have v1 := (Heap.get?_update_other s.heap (Obj.mapFields (·.setIfInBounds 0 Value.none)) (Ne.symm hb)).trans e
  rw [Heap.get?_update_other _ _ (Nat.ne_of_gt (Heap.lt_size (Heap.get?_push_of_some _ v1))), Heap.get?_push_of_some _ (Heap.get?_push_of_some _ v1)]
theorem end_tup_hot {it l x1 : Addr} {i : Nat} {items} {Q : Option Value → Shared → Prop} (hot : HotAt A x1 s.heap) (nx : it ≠ x1) (hit : IsTupIter s.heap it l i) (hl : IsTup s.heap l items) (hx : items[i]? = none) (hQ : ∀ h', Heap.ExtBut it s.heap h' → Q none { s with heap := h' }) : wpAny (model prog w) A (pyNext (.ref it)) Q E s := by
  obtain ⟨o, ho, hc, hd⟩ := id hit
  obtain ⟨ol, hol, qc, nl, hdl⟩ := hl
  obtain ⟨hh, o1, vs1, e1, d1, c1⟩ := hot
  unfold pyNext
  refine wpAny_bind (wpAny_attempt (wpAny_callSpecial?_slot (name := Str.ofString "__next__") hit.typeIs slot_tupleiter_next (wpAny_call_entry slot_tupleiter_next hit.typeIs entry_tupleiter_next ?_ (args_tupleiter_next _))))
  show wpAny _ _ (field (.ref it) 0 >>= _) _ _ s; refine wpAny_bind (wpAny_field ho hd (x := .ref l) rfl ?_)
  show wpAny _ _ (if (Value.ref l == Value.none) = true then _ else _) _ _ s; rw [if_neg (show ¬ ((Value.ref l == Value.none) = true) from Bool.false_ne_true)]
  show wpAny _ _ (field (.ref it) 1 >>= _) _ _ s; refine wpAny_bind (wpAny_field ho hd (x := .int i 0) rfl ?_)
  show wpAny _ _ (seqItems? (.ref l) >>= _) _ _ s; refine wpAny_bind (wpAny_seqItems hol hdl ?_)
  simp only [Int.toNat_natCast, hx]
  refine wpAny_bind (wpAny_rule (wpAny_bind (wpAny_setField ho hd (by simp) ?_)))
  show wpAny _ _ (newExc (.type "StopIteration") [] >>= _) _ _ _; refine wpAny_bind ?_
  simp only [newExc, newTuple]
  refine wpAny_bind (wpAny_newObj_type (wpAny_bind (m := firstArgMember _ _) (wpAny_of_eq (a := Value.none) (by first | rfl | (simp only [firstArgMember]; rfl)) (wpAny_newObj_type ?_ (by size_fits)))) (by size_fits))
  have u1 := (Heap.get?_update_other s.heap (Obj.mapFields (·.setIfInBounds 0 Value.none)) nx).trans e1
  have u2 := Heap.get?_push_of_some { cls := .type "tuple", data := .seq #[] } u1
  refine raiseNew_hot ⟨hh, o1, vs1, Heap.get?_push_of_some _ (Heap.get?_push_of_some _ u1), d1, c1⟩ (Nat.ne_of_lt (Heap.lt_size (Heap.get?_push_of_some _ u1))) (Heap.get?_push_size _ rfl) rfl (by first | (simp; done) | (simp; omega) | (simp only [Array.size_append]; simp; omega)) ?_
  refine wpAny_bind (wpAny_isInstance (T := "StopIteration") (b := true) ⟨_, Heap.get?_update_self _ (Heap.get?_push_size _ rfl) rfl, rfl⟩ isSubtype_stop (wpAny_pure (hQ _ fun b o hb e => ?_)))
  have v1 := (Heap.get?_update_other s.heap (Obj.mapFields (·.setIfInBounds 0 Value.none)) (Ne.symm hb)).trans e
  rw [Heap.get?_update_other _ _ (Nat.ne_of_gt (Heap.lt_size (Heap.get?_push_of_some _ v1))), Heap.get?_push_of_some _ (Heap.get?_push_of_some _ v1)]
/-- a tuple unpacked -/
theorem assign_tup_hot {x1 : Addr} {env : Env} {elts : List Expr} {k1} {pos : Pos} {t : Addr} {items : Array Value} {Q : Unit → Shared → Prop} (hot : HotAt A x1 s.heap) (ht : IsTup s.heap t items) (hn : (assignEach elts env).length = items.size) (hstar : (assignEach elts env).findIdx? (·.1) = none)
    (h : ∀ h', Heap.ExtBut s.heap.objs.size s.heap h' → wpAny (model prog w) A (assignInOrder ((assignEach elts env).map (·.2)) items.toList) Q E { s with heap := h' }) : wpAny (model prog w) A (assign (.Tuple elts k1 pos) env (.ref t)) Q E s := by
  obtain ⟨hh, o1, vs1, e1, d1, c1⟩ := hot
  have hlt : t ≠ s.heap.objs.size := by obtain ⟨o, ho, _⟩ := ht; exact Nat.ne_of_lt (Heap.lt_size ho)
  rw [assign_Tuple]
  refine wpAny_bind (wpAny_standAt ?_)
  unfold unpack
  rw [hn, hstar]
  refine wpAny_bind (wpAny_holding ?_)
  unfold unpackItems
  refine wpAny_bind ?_
  unfold notIterableAtAll
  refine wpAny_bind (wpAny_specialOf ht.typeIs slot_tuple_iter.lookup (wpAny_pure ?_))
  simp only [Bool.false_eq_true, if_false]
  refine wpAny_bind (wpAny_holding (iter_tuple ht (wpAny_bind (wpAny_holding (draw_tuple hlt items.size 0 _ _ ⟨_, Heap.get?_push_size _ rfl, rfl, rfl⟩ (ht.push _) (by omega) fun h₁ hit₁ hs₁ => ?_)))))
  rw [show List.take items.size (List.drop 0 items.toList) = items.toList from by rw [List.drop_zero]; exact List.take_of_length_le (by simp), if_neg (by simp)]
  have q1 : h₁.get? x1 = some o1 := hs₁.extBut x1 o1 (Nat.ne_of_lt (Heap.lt_size e1)) (Heap.get?_push_of_some _ e1)
  refine wpAny_bind (wpAny_holding (end_tup_hot (x1 := x1) ⟨hh, o1, vs1, q1, d1, c1⟩ (Nat.ne_of_gt (Heap.lt_size e1)) hit₁ ((ht.push _).extBut hs₁.extBut hlt) (by simp) fun h₂ he₂ => ?_))
  simp only [Option.isSome_none, Bool.false_eq_true, if_false]
  exact wpAny_pure (h h₂ fun b o hb e => he₂ b o hb (hs₁.extBut b o hb (Heap.get?_push_of_some _ e)))
end
section
variable {X : Cx}
theorem pg_tupH {es : List Expr} {k n : Nat} {t : TGs} {pos : Pos} (hc : HotC X) (h : PGs X es t) (hn : (assignEach es X.env).length = n := by rfl) (hst : (assignEach es X.env).findIdx? (·.1) = none := by rfl) : PG X (.Tuple es k pos) (L2.gTup X.K n t) := by
  refine ⟨fun pins s σ H v u Q I r ⟨a, xs, e1, hq, hl, hw⟩ => ?_⟩
  subst e1
  cases r
  obtain ⟨its, rv, ht, hz⟩ := I.tuple hq
  obtain ⟨x1, hot⟩ := hc.at I
  refine assign_tup_hot hot ht (by simp [hn, ← hl, rv.length]) hst fun h' hx => ?_
  have I1 : Inv X pins σ H { s with heap := h' } := I.kept (t' := s.toks) fun b o e => hx b o (Nat.ne_of_lt (Heap.lt_size e)) e
  exact h.run pins _ σ H xs _ Q I1 (by simpa using rv) hw
theorem turn_listH {P : Program} {w : World} {K : PySem.W.Frag} {tg : Expr} (a it : Addr) : TurnH P w K tg (Itl K a) [it] it (fun i h => h.IsListIter it a i) where
  mem := by simp
  obj := fun i h st b hb => by
    obtain ⟨o, e, c, d⟩ := st
    rw [show b = it from by simpa using hb]
    exact ⟨o, e, fun v z => by rw [d] at z; cases z⟩
  keep := fun i h h' st k => st.at fun o e => k it (by simp) o e
  item := fun X hP hw hK hc i pins s σ H E I hf st hg => by
    subst hP hw hK
    obtain ⟨xs, x, hq, hx⟩ := hg
    obtain ⟨its, rv, p, hz⟩ := I.list hq
    obtain ⟨u, hu, ru⟩ := rv.get hx
    obtain ⟨f0, f1, f2, f3, f4, f5⟩ := hf it (by simp)
    refine wpAny_pyNext_list_item st p.isList (x := u) (by simpa using hu) fun h' st' sb => ?_
    obtain ⟨o, e, c, d⟩ := id st'
    refine ⟨u, rfl, go_of (s := { s with heap := h' }) e c d (by decide) ⟨x, H, I.turned (t' := s.toks) (fun b o hb e => (sb.2 b hb).trans e) f0 f1 f3 f4 f5, ru, ⟨rfl, fun ys hy => ?_⟩, st', fun b hb => (hf b hb).1⟩⟩
    rw [I.list_inj hy hq]
    exact hx
  done := fun X hP hw hK hc i pins s σ H E I hf st hg => by
    subst hP hw hK
    obtain ⟨xs, hq, hx⟩ := hg
    obtain ⟨its, rv, p, hz⟩ := I.list hq
    obtain ⟨f0, f1, f2, f3, f4, f5⟩ := hf it (by simp)
    have hl := rv.length
    obtain ⟨q, ⟨hh, v1, e1, c1⟩, hp⟩ := hc
    exact end_list_hot (x1 := q.1) ⟨hh, q.2, v1, (I.pin q (List.mem_append_left _ hp)).1, e1, c1⟩ (Ne.symm (f5 q (List.mem_append_left _ hp))) st p.isList (by simp; omega) fun h' eb => ⟨rfl, I.turned (t' := s.toks) (fun b o hb e => eb b o hb e) f0 f1 f3 f4 f5⟩
  self := fun _ _ _ _ _ st h => wpAny_pyIter_listiter st h
theorem pi_listH {tg l : Expr} {tl : TE} (hl : PE X l tl) : PIH X tg l (iList X.K tl) := by
  refine ⟨fun pins s σ H R I h => thn (hl.run pins s σ H _ I h) fun v s1 ⟨x, H1, I1, r1, a, e, ⟨xs, hq⟩, q⟩ => ?_⟩
  subst e
  cases r1
  obtain ⟨its, rv, p, hz⟩ := I1.list hq
  refine wpAny_pyIter_list p.isList ⟨s1.heap.objs.size, [s1.heap.objs.size], _, _, H1, rfl, I1.kept (t' := s1.toks) fun b o e => Heap.get?_push_of_some _ e, turn_listH a _, ⟨_, Heap.get?_push_size _ rfl, rfl, rfl⟩, fun b hb => ?_, q⟩
  rw [show b = s1.heap.objs.size from by simpa using hb]
  exact I1.fpOk (Nat.le_refl _) (I1.hok.fresh (Nat.le_refl _))
end
end Wn

set_option Elab.async false
set_option linter.all false
set_option maxRecDepth 100000
set_option maxHeartbeats 4000000
namespace Wn
open PySem PySem.Spec PyProof.Rows L2 HotX L2H
/-- the context of its block; the handled exception stays pinned -/
abbrev blkH (X : Cx) (s : Shared) (H : Hp) (scope : Scope) (cenv : Env) (fp : List Addr) : Cx := { X.blk s H scope cenv fp with pn := X.pn }
theorem ok_pn {X : Cx} (pn : List (Addr × Obj)) (o : X.Ok) : ({ X with pn := pn } : Cx).Ok := ⟨o.mod, o.kind, o.glob, o.blt, o.above, o.inj, o.has, o.cab, o.hd, o.frames, o.stk, o.exf, o.bs, o.bsz, o.noex, o.exfs, o.funs, o.frf⟩
section
variable {X : Cx}
theorem pe_lcH {elt tg iter : Expr} {ifs : List Expr} {scope : Scope} {own : List (Str × Nat)} {pos : Pos} {wi : TI} {g : TG} {tt : TT} {te : TE} (hc : HotC X) (hN : X.N.Nodup) (hi : PIH X tg iter wi) (ok : BlkOk X.N X.env.scope scope own)
    (hg : ∀ (s : Shared) (H : Hp) (C : Addr) (cl : List (Str × Addr)) (fp : List Addr), PG (blkH X s H scope (compEnvC scope cl C X.env) fp) tg g) (ht : ∀ (s : Shared) (H : Hp) (C : Addr) (cl : List (Str × Addr)) (fp : List Addr), PTs (blkH X s H scope (compEnvC scope cl C X.env) fp) ifs tt)
    (he : ∀ (s : Shared) (H : Hp) (C : Addr) (cl : List (Str × Addr)) (fp : List Addr), PE (blkH X s H scope (compEnvC scope cl C X.env) fp) elt te) (hs : ∀ x, foldedSetIterable iter X.env x = pure x := by intro _; rfl) :
    PE X (.ListComp elt [⟨tg, iter, ifs, 0⟩] scope pos) (L2.tLc wi g tt te (own.map (·.2))) := by
  refine ⟨fun pins s σ H Q I h => ?_⟩
  rw [eval_ListComp]
  have hfree : ∀ y ∈ scope.names, y.2 = .free → ∃ c, X.env.cells.lookup y.1 = some c := fun y hy e => I.ok.has _ (ok.free y hy e)
  refine wpAny_comprehension_free (use := none) rfl hs (closure_ok hfree) ok.kind (fun y hy e => by rw [ok.uniq y hy, e]) (thn (hi.run pins s σ H _ I h) fun xv s1 hx => thn hx fun itv s2 h2 => ?_)
  obtain ⟨it, fp, tn, J, H2, e, I2, T, st2, f2, q⟩ := h2
  subst e
  refine wpAny_newObj_type (newEnv_comp ?_) (by show 0 ≤ sizeLine; decide)
  generalize hD : s2.heap.objs.size = D
  have hDn : H2 D = none := I2.hok.fresh (Nat.le_of_eq hD)
  obtain ⟨W, ⟨m0, w0⟩, turn⟩ := q D hDn
  generalize hs3 : ({ s2 with heap := s2.heap.push { cls := .type "list", data := .seq ([] : List Value).toArray } } : Shared) = s3
  have h3 : s3.heap = s2.heap.push { cls := .type "list", data := .seq ([] : List Value).toArray } := by rw [← hs3]
  have I3 : Inv X pins σ (upd H2 D (.lst [])) s3 := by
    rw [← hs3]
    exact I2.laid (t' := s2.toks) (fun b o e => Heap.get?_push_of_some _ e) (Nat.le_of_eq hD) ⟨Nat.zero_le _, [], 0, .nil, by rw [← hD]; exact Heap.get?_push_size _ rfl⟩
  have f3 : ∀ b ∈ fp, FpOk X pins (upd H2 D (.lst [])) b ∧ b < s3.heap.objs.size := fun b hb => by
    obtain ⟨o, e, _⟩ := T.obj _ _ st2 b hb
    have hlt := Heap.lt_size e
    exact ⟨⟨by rw [upd_ne (by rw [← hD]; exact Nat.ne_of_lt hlt)]; exact (f2 b hb).1, (f2 b hb).2⟩, by rw [h3, Heap.size_push]; exact Nat.lt_succ_of_lt hlt⟩
  have st3 : tn 0 s3.heap := T.keep _ _ _ st2 fun b _ o e => by rw [h3, Heap.get?_push_of_some _ e]
  have I40 := block_start I3 ok hN f3
  have pg := hg s3 (upd H2 D (.lst [])) s3.heap.objs.size (cellsFrom (s3.heap.objs.size + 1) scope.names (cloFrom X.env.cells scope.names [])) fp
  have pt := ht s3 (upd H2 D (.lst [])) s3.heap.objs.size (cellsFrom (s3.heap.objs.size + 1) scope.names (cloFrom X.env.cells scope.names [])) fp
  have pe := he s3 (upd H2 D (.lst [])) s3.heap.objs.size (cellsFrom (s3.heap.objs.size + 1) scope.names (cloFrom X.env.cells scope.names [])) fp
  show codeAny _ _ (.compStart (.ListComp elt [⟨tg, iter, ifs, 0⟩] scope pos) 0 (.ref it) (.ref D) (compEnvC scope (cellsFrom (s3.heap.objs.size + 1) scope.names (cloFrom X.env.cells scope.names [])) s3.heap.objs.size X.env)) (compPost (model X.prog X.w) X.A X.xe none (EP X pins σ Q) (.ref D) s3.heap.objs.size) { s3 with heap := pushCells (s3.heap.push { cls := .type "dict", data := .dict #[] }) scope.names }
  have nfp : ∀ b ∈ fp, (upd H2 D (.lst [])) b = none := fun b hb => (f3 b hb).1.1
  generalize hce : compEnvC scope (cellsFrom (s3.heap.objs.size + 1) scope.names (cloFrom X.env.cells scope.names [])) s3.heap.objs.size X.env = ce at I40 pg pt pe ⊢
  have cL : ce.locals = s3.heap.objs.size := by subst hce; rfl
  generalize hH3 : upd H2 D (.lst []) = H3 at I3 I40 pg pt pe w0 nfp f3
  have kp4 : ∀ b o, s3.heap.get? b = some o → (pushCells (s3.heap.push { cls := .type "dict", data := .dict #[] }) scope.names).get? b = some o := fun b o e => pushCells_keeps _ _ _ _ (Heap.get?_push_of_some _ e)
  generalize hs4 : ({ s3 with heap := pushCells (s3.heap.push { cls := .type "dict", data := .dict #[] }) scope.names } : Shared) = s4 at I40 ⊢
  have h4 : s4.heap = pushCells (s3.heap.push { cls := .type "dict", data := .dict #[] }) scope.names := by rw [← hs4]
  -- the handled exception is out of the block's reach
  have I4 : Inv (blkH X s3 H3 scope ce fp) [] (wipe σ (own.map (·.2))) H3 s4 := ⟨ok_pn _ I40.ok, I40.os, I40.bare, I40.base, I40.loc, I40.cell, I40.free, I40.freeC, fun p hp => by
    have hp : p ∈ X.pn := by simpa using (show p ∈ X.pn ++ [] from hp)
    obtain ⟨p1, p2, p3, p4, p5⟩ := I3.pin p (List.mem_append_left _ hp)
    refine ⟨by rw [h4]; exact kp4 _ _ p1, p2, ?_, fun z => ?_, p5⟩
    · show p.1 ≠ ce.locals
      rw [cL]
      exact Nat.ne_of_lt (Heap.lt_size p1)
    · rcases List.mem_cons.mp (I3.stkSub p.1 z) with z | z
      · exact p3 z
      · exact p4 z, I40.hok, I40.len⟩
  have st4 : tn 0 s4.heap := T.keep _ _ _ st3 fun b _ o e => by rw [h4]; exact kp4 b o e
  have hcB : HotC (blkH X s3 H3 scope ce fp) := hc
  have stat : ∀ {σ' : L2.St} {H' : Hp} {s' : Shared}, Inv (blkH X s3 H3 scope ce fp) [] σ' H' s' → (∀ b ∈ fp, H' b = none) → ∀ b ∈ fp, FpOk (blkH X s3 H3 scope ce fp) [] H' b := fun {σ' H' s'} I' hn b hb =>
    ⟨hn b hb, (I'.ok.exf b hb).1, I'.ok.exfs b hb, .inl hb, fun x c e => (I'.ok.exf b hb).2 x c e, fun p hp => (f3 b hb).1.2.2.2.2.2 p (List.mem_append_left _ (by simpa using (show p ∈ X.pn ++ [] from hp)))⟩
  have loop : codeAny (model X.prog X.w) X.A (.compLoop (.ListComp elt [⟨tg, iter, ifs, 0⟩] scope pos) 0 (.ref it) (.ref D) ce) (compPost (model X.prog X.w) X.A X.xe none (EP X pins σ Q) (.ref D) s3.heap.objs.size) s4 := by
    refine compLoop_any (fun n s' => ∃ i H', Inv (blkH X s3 H3 scope ce fp) [] (wipe σ (own.map (·.2))) H' s' ∧ tn i s'.heap ∧ (∀ b ∈ fp, H' b = none) ∧ W i n H') ?_ m0 ⟨0, H3, I4, st4, nfp, w0⟩
    rintro n s5 ⟨i, H5, I5, st5, n5, w5⟩
    rcases turn i n H5 w5 with ⟨stop, qq⟩ | ⟨go, Nx, hNx, step⟩
    · refine thnF (T.done (blkH X s3 H3 scope ce fp) rfl rfl rfl hcB i [] s5 _ H5 (fun _ _ => False) I5 (stat I5 n5) st5 stop) fun r s6 ⟨hr, I6⟩ => ?_
      subst hr
      have I7 : Inv X pins σ H5 s6 := I3.call' (ch := fp) I6.os I6.base I6.hok I6.bare fun b hb => ⟨(f3 b hb).1.2.2.2.1, (f3 b hb).1.2.1, (f3 b hb).1.2.2.2.2.1, (f3 b hb).1.2.2.2.2.2⟩
      have nC : H5 s3.heap.objs.size = none := cL ▸ (show H5 ce.locals = none from I6.free)
      obtain ⟨m, hn, _⟩ := I6.loc
      have hn : s6.heap.Ns s3.heap.objs.size m := cL ▸ (show s6.heap.Ns ce.locals m from hn)
      obtain ⟨g0, g1, g2, g3, g4, g5⟩ := I3.fpOk (Nat.le_refl _) nC
      exact ⟨m, hn, fun h'' sb => ⟨.ref D, H5, I7.turned (t' := s6.toks) (fun b o hb e => (sb.2 b hb).trans e) g0 g1 g3 g4 g5, rfl, qq⟩⟩
    · refine thnF (T.item (blkH X s3 H3 scope ce fp) rfl rfl rfl hcB i [] s5 _ H5 (fun _ _ => False) I5 (stat I5 n5) st5 go) fun r s6 ⟨u, hr, h6⟩ => ?_
      subst hr
      refine thnF h6 fun _ s7 ⟨x, H7, I7, r7, y7, st7, n7⟩ => ?_
      refine thnF (pg.run _ s7 _ H7 x u _ (I7.pinned (stat I7 n7) (T.obj _ _ st7)) r7 (step x H7 y7)) fun _ s8 ⟨σ8, H8, I8, hw8, q8⟩ => ?_
      refine thnF (pt.run _ s8 σ8 H8 _ I8 q8) fun b s9 ⟨H9, I9, q9⟩ => ?_
      have fin : ∀ {s' : Shared} {H' : Hp}, Inv (blkH X s3 H3 scope ce fp) ([] ++ pinsAt fp s7.heap) σ8 H' s' → Nx H' → ∃ m, m < n ∧ ∃ i H', Inv (blkH X s3 H3 scope ce fp) [] (wipe σ (own.map (·.2))) H' s' ∧ tn i s'.heap ∧ (∀ b ∈ fp, H' b = none) ∧ W i m H' := fun {s' H'} I' nx => by
        obtain ⟨m', hm, w'⟩ := hNx H' nx
        have pin' : ∀ b ∈ fp, ∀ o, s7.heap.get? b = some o → s'.heap.get? b = some o ∧ H' b = none := fun b hb o e => ⟨(I'.pin (b, o) (List.mem_append_right _ (List.mem_append_right _ (mem_pinsAt hb e)))).1, (I'.pin (b, o) (List.mem_append_right _ (List.mem_append_right _ (mem_pinsAt hb e)))).2.1⟩
        refine ⟨m', hm, i + 1, H', (I'.unpinned (pins := [])).weak (by rw [← hw8, wipe_length]) (fun j v e => ?_), T.keep _ _ _ st7 fun b hb o e => (pin' b hb o e).1, fun b hb => ?_, w'⟩
        · rw [← hw8] at e
          exact (wipe_some e).1
        · obtain ⟨o, e, _⟩ := T.obj _ _ st7 b hb
          exact (pin' b hb o e).2
      cases b with
      | false =>
        simp only [Bool.false_eq_true, if_false] at q9 ⊢
        exact fin I9 q9
      | true =>
        simp only [if_true] at q9 ⊢
        refine thnF (pe.run _ s9 σ8 H9 _ I9 q9) fun z s10 ⟨yv, H10, I10, r10, acc, hD10, hz10, nx⟩ => ?_
        exact app_ok (X := blkH X s3 H3 scope ce fp) I10 hD10 hz10 r10 fun s11 I11 => fin I11 nx
  exact codeAny_compStart_list loop (T.self X.A 0 _ _ _ st4 loop)
end
end Wn

set_option Elab.async false
set_option linter.all false
set_option maxRecDepth 100000
set_option maxHeartbeats 4000000
namespace Wn
open PySem PySem.Spec PyProof.Rows L2 HotX L2H
/-! ### join -/
def strsOf : List D → Option (List Str)
  | [] => some []
  | .str i :: ds => (strsOf ds).map (i :: ·)
  | _ => none
theorem strsOf_map : ∀ ns : List Str, strsOf (ns.map D.str) = some ns
  | [] => rfl
  | n :: ns => by
    show (strsOf (ns.map D.str)).map (n :: ·) = _
    rw [strsOf_map ns] <;> rfl
theorem of_strsOf : ∀ {ds : List D} {ns : List Str}, strsOf ds = some ns → ds = ns.map D.str
  | [], ns, h => by
    cases h
    rfl
  | d :: ds, ns, h => by
    cases d with
    | str i =>
      have h : (strsOf ds).map (i :: ·) = some ns := h
      cases q : strsOf ds with
      | none =>
        rw [q] at h
        cases h
      | some ms =>
        rw [q] at h
        cases h
        rw [of_strsOf q] <;> rfl
    | _ => cases h
def dJoin (a : Str) (ds : List D) (P : D → Prop) : Prop := match strsOf ds with
  | some ys => (ys.map (·.length)).sum + ys.length * a.length ≤ 16777216 ∧ P (.str (Txt.join a ys))
  | none => False
def tJoin (ts : TD) (t : TDL) : TD := fun δ P EP => ts δ (fun x => match x with
  | .str a => t δ (fun ds => dJoin a ds P) EP
  | _ => False) EP
section
variable {X : Cx} {T : Tbl} {E : XK} {o e : Expr} {apos pos : Pos} {ts : TD} {t : TDL}
theorem pd_join (ho : PE X o (lR X.K T E ts)) (he : PE X e (lL X.K T E t)) (hs : starEach [e] X.env = [(false, eval e X.env)] := by rfl) (hbase : attributeBase o "join" X.env (eval o X.env) = eval o X.env := by rfl) (hline : (apos.endLine == pos.line) = true := by rfl) :
    PE X (.Call (.Attribute o "join" apos) [e] [] pos) (lF X.K T E (tJoin ts t)) :=
  pe_imp (pe_join ho he hs hbase hline) fun σ H Q ⟨δ, G0, H0, G, P, EP, L, ht, k⟩ => ⟨δ, G0, H0, G, _, EP, L, ht, fun d hd v H1 g1 r1 => by
    cases d with
    | str a =>
      refine ⟨⟨a, r1⟩, δ, G0, H0, G, _, EP, L.gr g1, hd, fun ds hd2 p us H2 G2 x2 e2 r2 => ?_⟩
      have hd2 : dJoin a ds P := hd2
      unfold dJoin at hd2
      cases q : strsOf ds with
      | none =>
        rw [q] at hd2
        exact hd2.elim
      | some ys =>
        rw [q] at hd2
        have hd3 : (ys.map (·.length)).sum + ys.length * a.length ≤ 16777216 ∧ P (.str (Txt.join a ys)) := hd2
        have e3 := of_strsOf q
        subst e3
        rw [r2.strs] at e2
        exact ⟨a, p, ys, r1, rfl, .inl (.of (vw_sub _ _ e2)), hd3.1, k _ hd3.2 _ H2 G2 ((Stp.of_gr L.rep.gv g1).trans x2) rfl⟩
    | _ => exact hd.elim⟩
end
/-! ### isinstance of the exception that a pin bears -/
/-- p's object is an exception of the class at C -/
def OfC (C : Addr) (p : Addr × Obj) : Prop := Zc (.ref C) none p.2 ∧ ∃ vs, p.2.data = .fields vs
theorem call_isP {X : Cx} {C : Addr} {p : Addr × Obj} (hp : p ∈ X.pn) (hz : OfC C p) (EC : ExcC X.K C) : CallR X (.builtin "isinstance") (rIsE X.K C p.1) := by
  intro pins s σ H xs us Q I r h
  obtain ⟨c, cv, b, rfl, hcv, e, q⟩ := h
  cases r with
  | cons rx rr =>
    cases rr with
    | cons rt rr =>
      cases rr
      cases rx
      rw [hcv _ rt]
      obtain ⟨hget, _⟩ := I.pin p (List.mem_append.mpr (.inl hp))
      obtain ⟨⟨h1, h2⟩, vs, hv⟩ := hz
      obtain ⟨a, oc, od, oda, osl⟩ := p
      dsimp only at h1 h2 hv
      subst h1 h2 hv
      have J : PySem.W.InstAt s.heap a _ C none := ⟨hget, rfl, rfl, trivial⟩
      exact PySem.W.kia_one (PySem.W.handS_kitx_exc EC.hg EC.hk EC.hs EC.hd EC.ha EC.hn EC.ht EC.hm) I.kIn J e (fun z => nomatch z) fun tk => ⟨.bl b, H, I.kept (t' := tk) fun _ _ z => z, rfl, q⟩
def tIsE (a : Addr) (b : Bool) (t : TD) : TD := fun δ P EP => t δ (fun d => match d with
  | .ref a' => a' = a ∧ P (.bl b)
  | _ => False) EP
section
variable {X : Cx} {T : Tbl} {E : XK} {e : Expr} {p1 p2 pos : Pos} {t : TD} {Tn : Str}
theorem pd_isE {C D' : Addr} {b : Bool} {p : Addr × Obj} (hp : p ∈ X.pn) (hz : OfC C p) (EC : ExcC X.K C) (hk : PySem.W.kitOne X.K (.ref C) (.ref D') = some b) (hm : X.mg "isinstance" = none) (gD : X.mg Tn = some (.ref D')) (he : PE X e (lR X.K T E t)) (hg : Gl X "isinstance" := by rfl) (hgT : Gl X Tn := by rfl)
    (hdb : (Tn == ("__debug__" : Str)) = false := by decide) (hs : starEach [e, Expr.Name Tn p2] X.env = (false, eval e X.env) :: starEach [Expr.Name Tn p2] X.env := by rfl) (hs2 : starEach [Expr.Name Tn p2] X.env = (false, eval (Expr.Name Tn p2) X.env) :: starEach [] X.env := by rfl) (hpl : (backTo pos (starEach [Expr.Name Tn p2] X.env)).any (·.1) = false := by rfl) :
    PE X (.Call (.Name "isinstance" p1) [e, .Name Tn p2] [] pos) (lF X.K T E (tIsE p.1 b t)) :=
  pe_imp (pe_callB (call_isP hp hz EC) hg hm (by decide +kernel) (pa_cons he (pa_cons (pe_glob (v := .ref D') hgT gD rfl hdb) pa_nil hs2) hs) (by decide) (by decide) hs hpl) fun σ H Q ⟨δ, G0, H0, G, P, EP, L, ht, k⟩ => ⟨δ, G0, H0, G, _, EP, L, ht, fun d hd v H1 g r => by
    cases d with
    | ref a' =>
      obtain ⟨e1, hP⟩ := hd
      exact ⟨.ref D', .ref D', b, by rw [show v = .ref a' from r, e1], fun u hu => hu, hk, k _ hP _ H1 G (.of_gr L.rep.gv g) rfl⟩
    | _ => exact hd.elim⟩
end
/-! ### a def that gets the handled exception -/
structure FnE (P : Program) (w : World) (K : PySem.W.Frag) (mg : Str → Option Value) (base : Heap) (T : Tbl) (k : Nat) (f : Addr) (fd : FuncData) (ps : List Str) (φ : Addr → Addr → (D → Prop) → Prop) : Prop where
  len : ps.length = 1
  run : ∀ (A : Around) (outer : List Env) (s : Shared) (H : Hp) (args : Args) (Q : VK) (p : Addr × Obj) (C : Addr) (s0 : Option Addr) (G : Hp) (R : D → Prop), RoomH k A → Hot1 A p → PinOk outer H s p → OfC C p → Env0 P w K mg base A outer s H → BindsTo s fd args (ps.zip [.ref p.1]) →
    (∀ a, s0 = some a → Src a H) → LamX.Tabs T H → Same G (vw s0 H) → φ p.1 C R → (∀ d, R d → ∀ v H' G', Stp T s0 G G' H H' → Rp K G' d v → Q v H') →
    codeAny (model P w) A (.call (.ref f) args) (CR (L2N.CX P w) outer P w H s Q C8.E0) s
/-- the reading of its body -/
def bodyE (N : List Str) (b : Addr → Addr → TDS) : Addr → Addr → (D → Prop) → Prop := fun a C R => ∀ s, b a C ⟨s, startD N [.ref a]⟩ { nx := fun δ' => δ'.s = s ∧ R .non, rt := fun s' d => s' = s ∧ R d, rn := fun s' ds => s' = s ∧ R (.lst ds), ex := fun _ _ => False }
section
variable {P : Program} {w : World} {K : PySem.W.Frag} {T : Tbl} {mg : Str → Option Value} {base : Heap} {x qual : Str} {st : Stmt} {f : Addr} {fd : FuncData} {N ps : List Str} {k : Nat} {b : Addr → Addr → TDS}
theorem fits_fn {G H : Hp} {s : Option Addr} {R : D → Prop} {Q : VK} {E : XK} (k1 : ∀ d, R d → ∀ v H' G', Stp T s G G' H H' → Rp K G' d v → Q v H') :
    Fits K T E G H G { nx := fun _ H' => Q .non H', rt := Q } { nx := fun δ' => δ'.s = s ∧ R .non, rt := fun s' d => s' = s ∧ R d, rn := fun s' ds => s' = s ∧ R (.lst ds), ex := fun _ _ => False } := by
  refine ⟨fun δ G' σ H' _ r ⟨e, hp⟩ => k1 _ hp .non H' G' (by rw [← e]; exact r.st) rfl, fun δ G' σ H' _ r hz => hz.elim, fun δ G' σ H' _ r hz => hz.elim, fun s' d ⟨e, hp⟩ v G' H' x r' => k1 d hp v H' G' (by rw [← e]; exact x) r', fun s' es ⟨e, hp⟩ a us G' H' x h1 h2 h4 h3 r' => ?_, fun s' c hz H' g => hz.elim⟩
  rw [e] at x h4
  refine k1 _ hp (.ref a) H' (upd G' a (.lst us)) ⟨x.gr, x.gg.trans (Wn.Same.new h2), fun c o e => ?_, fun c hc => ?_⟩ ⟨a, us, rfl, upd_same, r'.mono (Wn.Same.new h2)⟩
  · by_cases ca : c = a
    · rw [ca, upd_same] at e
      cases e
      rw [ca]
      exact vw_at h3 h4 fun ps z => by cases z
    · rw [upd_ne ca] at e
      exact x.gv c o e
  · by_cases ca : c = a
    · rw [ca]
      exact .inr h1
    · rw [upd_ne ca] at hc
      exact x.nw c hc
theorem fn_E (Cs : Addr → Prop) (F : L2.Fun K x qual st f fd) (S : FnScope N ps (defScope st)) (hn : ps.length = 1)
    (hb : ∀ (cdv : Value) (A : Around) (outer : List Env) (s : Shared) (H : Hp) (p : Addr × Obj) (C : Addr), RoomH k (A.deeper (envOfC qual (defScope st) s.heap.objs.size f cdv)) → HotC (cxH (L2N.CX P w) P w K mg base N qual (defScope st) f cdv A outer s H C8.E0 p) → OfC C p → Cs C →
      PSs (cxH (L2N.CX P w) P w K mg base N qual (defScope st) f cdv A outer s H C8.E0 p) (defBody st) (lS K T C8.E0 (b p.1 C))) : FnE P w K mg base T (k + 1) f fd ps (fun a C R => Cs C ∧ bodyE N b a C R) := by
  refine ⟨hn, fun A outer s H args Q p C s0 G R hr hot hpin hz e0 hbn src tab gv hφ kk => ?_⟩
  obtain ⟨oc, od, kV, doc, pm, an, cdv, ct, osl, rfl, lk, hcd⟩ := F.ex
  have KX : K.In s.heap := e0.mod.kin.keeps fun b o e => (e0.bs b o e).1
  refine codeAny_call_function hr.depth (KX _ _ lk) rfl S.co S.gen rfl (PySem.W.codeRec_of KX hcd) (hbn _ _ _ _ (wpAny_newFunctionEnv_cells S.kind (fun ⟨n, v⟩ hy => ?_) fun env he s1 x => ?_))
  · exact (S.par n (List.of_mem_zip hy).1).elim .inl fun q => .inr ⟨q, PySem.W.cellsFrom_some _ _ _ (.inl q)⟩
  subst he
  refine ⟨(e0.mod.nolimit.keeps fun b o e => (e0.bs b o e).1).keeps x.toInCall.keep, codeAny_func ?_⟩
  have I := inv_startH (CX := L2N.CX P w) (E := C8.E0) (vs := [V.ref p.1]) S hpin e0 hn.symm (.cons rfl .nil) x
  have hz1 := hb cdv A outer s H p C (hr.deeper _) ⟨p, hot, List.mem_singleton.mpr rfl⟩ hz hφ.1
  refine wpAny_mono (hz1.run [] s1 (L2.start N [.ref p.1]) H { nx := fun _ H' => Q .non H', rt := Q } I ⟨⟨s0, startD N [.ref p.1]⟩, G, H, G, _, rep_start src tab gv (.cons rfl .nil), hφ.2 s0, fits_fn kk⟩) (fun fl s' hs => ?_) fun e s' hs => hs
  have fin : ∀ {σ' : L2.St} {H' : Hp} {v : V} {u : Value}, Inv (cxH (L2N.CX P w) P w K mg base N qual (defScope st) f cdv A outer s H C8.E0 p) [] σ' H' s' → RelV v u → Q v H' → CE outer P w H s Q u s' := fun {σ' H' v u} J rv q => ⟨v, H', J.os, J.bare, J.base, J.hok, rv, q⟩
  cases fl with
  | ret u =>
    obtain ⟨v, σ', H', J, rv, q⟩ := hs
    exact fin J rv q
  | next =>
    obtain ⟨σ', H', J, q⟩ := hs
    exact fin (v := V.non) (u := Value.none) J rfl q
  | brk =>
    obtain ⟨_, _, _, q⟩ := hs
    exact q.elim
  | cont =>
    obtain ⟨_, _, _, q⟩ := hs
    exact q.elim
end
/-- called in the suite: return x(e) -/
structure ClE (P : Program) (w : World) (K : PySem.W.Frag) (mg : Str → Option Value) (base : Heap) (T : Tbl) (k : Nat) (x : Str) (φ : Addr → Addr → (D → Prop) → Prop) : Prop where
  ex : ∃ f fd ps, FnE P w K mg base T k f fd ps φ ∧ mg x = some (.ref f) ∧ PySem.W.keepIn K (.ref f) = true ∧ L2.Binds K fd ps []
def lE (K : PySem.W.Frag) (T : Tbl) (i : Nat) (a C : Addr) (φ : Addr → Addr → (D → Prop) → Prop) : TE := fun σ H Q => ∃ δ G0 H0 G R, Rep K T G0 H0 G H σ δ ∧ δ.sl[i]? = some (.d (.ref a)) ∧ φ a C R ∧ ∀ d, R d → ∀ v H' G', Stp T δ.s G G' H H' → Rp K G' d v → Q v H'
section
variable {X : Cx} {T : Tbl} {k i : Nat} {x n : Str} {p2 p3 pos : Pos} {φ : Addr → Addr → (D → Prop) → Prop}
theorem pe_clE {a C : Addr} {oe : Obj} {pn : List (Addr × Obj)} (c : ClE X.prog X.w X.K X.mg X.base T k x φ) (hr : RoomH k X.A) (hz : L2N.Zn (.ref C) none oe) (hf : ∃ vs, oe.data = .fields vs) (hg : Gl X x) (hN : X.N[i]? = some n) (hv : Vis X.env.scope n) (hd : (n == ("__debug__" : Str)) = false := by decide) (hcd : (n == ("__classdict__" : Str)) = false := by decide) (hdb : (x == ("__debug__" : Str)) = false := by decide)
    (he : starEach [.Name n p2] X.env = (false, eval (.Name n p2) X.env) :: starEach [] X.env := by rfl) (hpl : (backTo pos (starEach [] X.env)).any (·.1) = false := by rfl) :
    PE (X.suite a ((a, oe) :: pn)) (.Call (.Name x p3) [.Name n p2] [] pos) (lE X.K T i a C φ) := by
  obtain ⟨f, fd, ps, F, hm, hk, hb⟩ := c.ex
  obtain ⟨vs0, hf0⟩ := hf
  refine ⟨fun pins s σ H Q I ⟨δ, G0, H0, G, R, rep, hi, hφ, kk⟩ => ?_⟩
  obtain ⟨v, h1, h2, h3, h4⟩ := rep.sl i _ hi
  have h4 : h2 = .ref a := h4
  subst h4
  subst h3
  refine wpAny_Call_Name_kw (ld_glob I hg hm ?_ hdb)
  refine PySem.W.callWith_K (h₀ := X.base) I.ok.mod.kin hk (thn ((pa_cons (pe_var (X := X.suite a ((a, oe) :: pn)) (pos := p2) hN hv hd hcd) pa_nil he).run pos pins s σ H (fun vs H1 => vs = [.ref a] ∧ H1 = H) I ⟨.ref a, h1, rfl, rfl⟩) fun us s1 ⟨vs, H1, I1, r, e1, e2⟩ => ⟨I1.kIn, ?_⟩) he hpl
  subst e1
  subst e2
  cases r with
  | cons r1 rr =>
    cases rr
    cases r1
    have bnd := hb s1 [.ref a] I1.kIn (by rw [F.len] <;> rfl)
    rw [List.append_nil] at bnd
    have P1 := I1.pin (a, oe) (List.mem_append_left _ List.mem_cons_self)
    have hpin : PinOk X.stack H1 s1 (a, oe) := ⟨P1.1, P1.2.1, fun hm => (List.mem_cons.mp (I1.stkSub a hm)).elim P1.2.2.1 P1.2.2.2.1, P1.2.2.2.2⟩
    refine wpAny_call (codeAny_mono (F.run (X.A.mark (some (.ref a))) X.stack s1 H1 ⟨[.ref a], []⟩ Q (a, oe) C δ.s G R ⟨hr.dp, hr.un⟩ ⟨rfl, vs0, hf0, hz.2.2 vs0 hf0⟩ hpin ⟨hz.zc, vs0, hf0⟩ I1.env0 bnd rep.src rep.tab rep.gv hφ kk) fun r s' hq => ?_)
    cases r with
    | error e =>
      obtain ⟨_, _, _, _, _, _, _, _, _, _, _, _, q⟩ := (show L2N.CX X.prog X.w X.stack H1 s1 C8.E0 e s' from hq)
      exact q.elim
    | ok fl =>
      cases fl with
      | ret u => exact I1.after hq
      | next => exact False.elim hq
      | brk => exact False.elim hq
      | cont => exact False.elim hq
end
end Wn

set_option Elab.async false
set_option linter.all false
set_option maxRecDepth 100000
set_option maxHeartbeats 4000000
namespace Wn
open PySem PySem.Spec PyProof.Rows L2 HotX L2H
section
variable {X : Cx} {T : Tbl} {E : XK} {elt tg iter : Expr} {es : List Expr} {ifs : List Expr} {scope : Scope} {own : List (Str × Nat)} {pos : Pos} {js : List Nat} {g : TGD} {c : TDB} {e : TD} {te : TDL}
theorem pd_gtupH {kk n : Nat} (hc : HotC X) (h : PGs X es (lGs X.K T js)) (hj : js.length = n := by rfl) (hn : (assignEach es X.env).length = n := by rfl) (hst : (assignEach es X.env).findIdx? (·.1) = none := by rfl) : PG X (.Tuple es kk pos) (lG X.K T js (gT js)) :=
  pg_imp (pg_tupH (n := n) hc h hn hst) (rd_gtup hj)
theorem pd_lcH (hc : HotC X) (hN : X.N.Nodup) (hi : PE X iter (lL X.K T E te)) (ok : BlkOk X.N X.env.scope scope own) (hjs : ∀ i ∈ js, i ∈ own.map (·.2))
    (hg : ∀ (s : Shared) (H : Hp) (C : Addr) (cl : List (Str × Addr)) (fp : List Addr), PG (blkH X s H scope (compEnvC scope cl C X.env) fp) tg (lG X.K T js g)) (ht : ∀ (s : Shared) (H : Hp) (C : Addr) (cl : List (Str × Addr)) (fp : List Addr), PTs (blkH X s H scope (compEnvC scope cl C X.env) fp) ifs (lB X.K T E0 c))
    (he : ∀ (s : Shared) (H : Hp) (C : Addr) (cl : List (Str × Addr)) (fp : List Addr), PE (blkH X s H scope (compEnvC scope cl C X.env) fp) elt (lF X.K T E0 e)) (hs : ∀ x, foldedSetIterable iter X.env x = pure x := by intro _; rfl) :
    PE X (.ListComp elt [⟨tg, iter, ifs, 0⟩] scope pos) (lN X.K T E (tLc te (own.map (·.2)) g c e)) := pe_imp (pe_lcH hc hN (pi_listH hi) ok hg ht he hs) (rd_lc hjs)
end
end Wn

set_option Elab.async false
set_option linter.all false
set_option maxRecDepth 100000
set_option maxHeartbeats 4000000
namespace Wn
open PySem PySem.Spec PyProof.Rows L2 HotX L2H LamX
/-! ### a def that a name holds -/
structure ClA (P : Program) (w : World) (K : PySem.W.Frag) (mg : Str → Option Value) (base : Heap) (T : Tbl) (k : Nat) (f : Addr) (n : Nat) (φ : Fn) : Prop where
  ex : ∃ fd ps, FnOk P w K mg base (L2N.CX P w) k f fd ps (spD K T n φ) ∧ PySem.W.keepIn K (.ref f) = true ∧ L2.Binds K fd ps []
def tClV (i : Nat) (Φ : Addr → Nat → Option Fn) (n : Nat) (t : TDL) : TD := fun δ P EP => match δ.sl[i]? with
  | some (.d (.ref a)) => (match Φ a n with
    | some φ => t δ (fun ds => match Nat.beq ds.length n with
      | true => φ δ.s ds P EP
      | false => False) EP
    | none => False)
  | _ => False
section
variable {X : Cx} {T : Tbl} {E : XK} {e : Expr} {es : List Expr} {x : Str} {p pos : Pos} {t : TDL} {n k j : Nat} {Φ : Addr → Nat → Option Fn}
theorem pd_clV (i : Nat) (c : ∀ f n φ, Φ f n = some φ → ClA X.prog X.w X.K X.mg X.base T k f n φ) (hr : Room j X.A) (hk : k ≤ j) (hx : Passes (L2N.CX X.prog X.w) X E) (ha : PA X (e :: es) (lA X.K T E t)) (hN : X.N[i]? = some x := by rfl) (hv : Vis X.env.scope x := by first | exact Or.inl rfl | exact Or.inr (Or.inl rfl) | exact Or.inr (Or.inr rfl)) (hdb : (x == ("__debug__" : Str)) = false := by decide) (hcd : (x == ("__classdict__" : Str)) = false := by decide)
    (he : starEach (e :: es) X.env = (false, eval e X.env) :: starEach es X.env := by rfl) (hpl : (backTo pos (starEach es X.env)).any (·.1) = false := by rfl) : PE X (.Call (.Name x p) (e :: es) [] pos) (lF X.K T E (tClV i Φ n t)) := by
  refine ⟨fun pins s σ H Q I ⟨δ, G0, H0, G, P, EP, L, ht, q⟩ => ?_⟩
  unfold tClV at ht
  cases e0 : δ.sl[i]? with
  | none =>
    rw [e0] at ht
    exact ht.elim
  | some o =>
    rw [e0] at ht
    cases o with
    | d dx =>
      cases dx with
      | ref f =>
        have ht : (match Φ f n with | some φ => t δ (fun ds => match Nat.beq ds.length n with | true => φ δ.s ds P EP | false => False) EP | none => False) := ht
        obtain ⟨v, h1, u, h2, h3⟩ := L.rep.sl i _ e0
        have h3 : u = .ref f := h3
        subst h3
        subst h2
        cases hΦ : Φ f n with
        | none =>
          rw [hΦ] at ht
          exact ht.elim
        | some φ =>
          rw [hΦ] at ht
          obtain ⟨fd, ps, F, kp, hb⟩ := (c f n φ hΦ).ex
          refine (pe_callL (i := i) (f := f) (sp := spD X.K T n φ) (dvs := []) (E := E) F (hr.mono hk) hN hv kp hb .nil hx ha hdb hcd he hpl).run pins s σ H Q I ⟨h1, δ, G0, H0, G, _, EP, L, ht, fun ds hd vs H1 G1 x1 r1 => ?_⟩
          cases z : Nat.beq ds.length n with
          | false =>
            rw [z] at hd
            exact hd.elim
          | true =>
            rw [z] at hd
            rw [List.append_nil]
            have L1 := L.stp x1
            exact ⟨δ.s, G1, ds, P, EP, L1.rep.src, L1.rep.tab, x1.gv, r1, Nat.eq_of_beq_eq_true z, hd, fun d hd' v H' G' x2 r2 => q d hd' v H' G' (x1.trans x2) r2, fun c hc H' g => L1.ex c hc H' g⟩
      | _ => exact ht.elim
    | _ => exact ht.elim
end
/-! ### the lambda is made -/
section
variable {X : Cx} {pins : List (Addr × Obj)} {σ : L2.St} {H : Hp} {s : Shared}
/-- a table written, a code object new: all else stands -/
theorem Gr.tab {T : Tbl} {s : Option Addr} {H : Hp} {P c : Addr} {q : Str} {ps ms : Array Value} (hP : H P = some (.tbl ps)) (nC : H c = none) (tb : LamX.Tabs T H → LamX.Tabs T (upd (upd H P (.tbl ms)) c (CodeO c q))) : Gr T s H (upd (upd H P (.tbl ms)) c (CodeO c q)) := by
  have at_ : ∀ b o, H b = some o → NT o → upd (upd H P (.tbl ms)) c (CodeO c q) b = some o := fun b o e n => by
    rw [upd_ne (ne_of_none e nC), upd_ne (fun z => n ps (Option.some.inj (e.symm.trans (by rw [z]; exact hP))))]
    exact e
  refine ⟨fun b o e => ?_, fun b hb => ?_, fun a _ ⟨x, y, e, r⟩ => ⟨x, y, at_ a _ e (fun ps z => by cases z), r⟩, tb⟩
  · obtain ⟨e1, e2, e3⟩ := vw_of e
    exact vw_at (at_ b o e1 e3) e2 e3
  · by_cases c1 : b = c
    · rw [c1, upd_same]
      simp
    · rw [upd_ne c1]
      by_cases c2 : b = P
      · rw [c2, upd_same]
        simp
      · rw [upd_ne c2]
        exact hb
theorem lam_makeN {T : Tbl} {c P : Addr} {params : Arguments} {body : Expr} {scope : Scope} {pos : Pos} {E : Value → Shared → Prop} {Q : Value → Shared → Prop} (I : Inv X pins σ H s) (TB : TabB X.base X.mg c P) (hcode : X.env.code = .ref c) (hm : (P, X.env.qual ++ "<lambda>") ∈ T) (hu : ∀ p ∈ T, p.1 = P → p.2 = X.env.qual ++ "<lambda>")
    (hT : Tabs T H) (hdef : defaultsOf params X.env = ([], [])) (hfree : ∀ y ∈ scope.names, y.2 = .free → ∃ c, X.env.cells.lookup y.1 = some c)
    (h : ∀ (f c' : Addr) (pm ctv : Value) (H1 : Hp) (s' : Shared), Inv X pins σ H1 s' → (∀ s0, Gr T s0 H H1) → s'.heap.get? f = some (PySem.W.kla_obj "<lambda>" (X.env.qual ++ "<lambda>") params body scope (cloFrom X.env.cells scope.names []) pm c' ctv) → H1 f = none → f ∉ frs X.stack → H1 c' = some (CodeO c' (X.env.qual ++ "<lambda>")) → Q (.ref f) s') :
    wpAny (model X.prog X.w) X.A (eval (.Lambda params body scope pos) X.env) Q E s := by
  obtain ⟨ps, hP, ht, ha⟩ := hT _ hm
  have hP' : s.heap.get? P = some { cls := .none, data := .fields ps } := I.hok P _ hP
  have nofr : ∀ f, s.heap.objs.size ≤ f → f ∉ frs X.stack := fun f hf z => (List.mem_cons.mp (I.stkSub _ z)).elim (fun e => absurd (Nat.lt_of_lt_of_le I.lt (e ▸ hf)) (Nat.lt_irrefl _)) (I.nofs hf)
  refine PySem.W.kla_eval hdef ?_
  cases hc : codeAmong pos ps.toList with
  | none =>
    refine PySem.W.kla_makeFunction (mg := X.mg) (c := c) (P := P) (ps := ps) (closure_ok hfree) I.ok.glob (I.mod.glob.keeps I.bk) hcode (TB.code.keeps I.bk) hP' ht hc TB.gP (TB.bm.keeps I.bk) fun c' ctv h' tk hx hge hlt hrec htb => ?_
    obtain ⟨c2, oc, vs, t, e2, hoc, hd, hv⟩ := hrec
    cases e2
    have hsz : s.heap.objs.size ≤ h'.objs.size := Nat.le_trans hge (Nat.le_of_lt hlt)
    have nC : H c' = none := I.hok.fresh hge
    have hE : ∀ b o, H b = some o → NT o → (upd (upd H P (.tbl (ps ++ #[rawInt pos.line, rawInt pos.col, .ref c']))) c' (CodeO c' (X.env.qual ++ "<lambda>"))) b = some o := fun b o e n => by
      rw [upd_ne (ne_of_none e nC), upd_ne (fun z => n ps (Option.some.inj (e.symm.trans (by rw [z]; exact hP))))]
      exact e
    have eL : (ps ++ #[rawInt pos.line, rawInt pos.col, .ref c']).toList = ps.toList ++ [rawInt pos.line, rawInt pos.col, .ref c'] := by simp
    have n1 : h'.objs.size ≠ c' := Nat.ne_of_gt hlt
    have n2 : h'.objs.size ≠ P := Nat.ne_of_gt (Nat.lt_of_lt_of_le (Heap.lt_size hP') hsz)
    refine h h'.objs.size c' ((X.mg "__name__").getD .none) ctv _ _ (inv_table (t' := tk) (more := #[rawInt pos.line, rawInt pos.col, .ref c']) (h' := h'.push (PySem.W.kla_obj "<lambda>" (X.env.qual ++ "<lambda>") params body scope (cloFrom X.env.cells scope.names []) ((X.mg "__name__").getD .none) c' ctv)) I hP
      (fun b o hb e => Heap.get?_push_of_some _ (hx b o hb e)) (Heap.get?_push_of_some _ htb) hge ⟨oc, vs, t, Heap.get?_push_of_some _ hoc, hd, hv⟩) (fun s0 => .tab hP nC fun hT p hp => ?_) (Heap.get?_push_size _ rfl) (by rw [upd_ne n1, upd_ne n2]; exact I.hok.fresh hsz) (nofr _ hsz) upd_same
    by_cases hb : p.1 = P
    · rw [hu p hp hb, hb]
      refine ⟨_, by rw [upd_ne (ne_of_none hP nC), upd_same], by rw [eL]; exact PySem.TriplesOk_snoc _ _ _ _ ht, fun p' cv hcv => ?_⟩
      rw [eL] at hcv
      rcases among_app _ ht hcv with z | z
      · obtain ⟨c0, e1, e2⟩ := ha p' cv z
        exact ⟨c0, e1, hE _ _ e2 codeO_ne⟩
      · exact ⟨c', z, upd_same⟩
    · obtain ⟨ps', a1, a2, a3⟩ := hT p hp
      refine ⟨ps', by rw [upd_ne (ne_of_none a1 nC), upd_ne hb]; exact a1, a2, fun p' cv hcv => ?_⟩
      obtain ⟨c0, e1, e2⟩ := a3 p' cv hcv
      exact ⟨c0, e1, hE _ _ e2 codeO_ne⟩
  | some cv =>
    obtain ⟨c', e, hco⟩ := ha pos cv hc
    subst e
    refine PySem.W.kla_makeFunctionHit (mg := X.mg) (c := c) (P := P) (ps := ps) (closure_ok hfree) I.ok.glob (I.mod.glob.keeps I.bk) hcode (TB.code.keeps I.bk) hP' ht hc (TB.bm.keeps I.bk) fun ctv h' tk hx hsz => ?_
    exact h h'.objs.size c' ((X.mg "__name__").getD .none) ctv H _ (I.kept fun b o e => Heap.get?_push_of_some _ (hx b o e)) (fun _ => .refl) (Heap.get?_push_size _ rfl) (I.hok.fresh hsz) (nofr _ hsz) hco
end
/-! ### its body -/
/-- the context of the lambda's body, entered at s from the frames outer -/
abbrev lamN (X : Cx) (A : Around) (outer : List Env) (s : Shared) (H : Hp) (E : XK) (scope : Scope) (f c' : Addr) : Cx :=
  (lamCx X A outer s H E scope f c').tr [] fun e s' => wpAny (model X.prog X.w) (A.deeper (lamEnv X scope s.heap.objs.size f c')) (leaving (lamEnv X scope s.heap.objs.size f c') e) (fun _ s'' => L2N.CX X.prog X.w outer H s E e s'') (fun e' s'' => L2N.CX X.prog X.w outer H s E e' s'') s'
theorem takesL {X : Cx} {A : Around} {outer : List Env} {s : Shared} {H : Hp} {E : XK} {scope : Scope} {f c' : Addr} : L2N.Takes (lamN X A outer s H E scope f c') (fun cls d _ H => E cls d H) := L2N.takes_of rfl rfl rfl rfl
theorem passL {X : Cx} {A : Around} {outer : List Env} {s : Shared} {H : Hp} {E : XK} {scope : Scope} {f c' : Addr} : Passes (L2N.CX X.prog X.w) (lamN X A outer s H E scope f c') E := L2N.passes_call takesL fun _ _ _ _ h => h
section
variable {X : Cx} {pins : List (Addr × Obj)} {σ : L2.St} {H HZ : Hp} {s s1 : Shared}
/-- x(), in the def that got the lambda; that def's context is entered at s -/
theorem pe_actN {Eg : XK} {Ng : List Str} {qg : Str} {sg : Scope} {g f c' : Addr} {cdg pm ctv : Value} {params : Arguments} {body : Expr} {scope : Scope} {k i : Nat} {a : Str} {pn : List (Addr × Obj)} {xe : Value → Shared → Prop} {W : WX} {E : XK} {tb : TE} {p1 p2 : Pos}
    (I : Inv X pins σ H s) (L : LamS X.env.scope scope) (hf : s.heap.get? f = some (PySem.W.kla_obj "<lambda>" (X.env.qual ++ "<lambda>") params body scope (cloFrom X.env.cells scope.names []) pm c' ctv)) (hfn : H f = none) (hfr : f ∉ frs X.stack) (hbind : bindArgs (PySem.W.kla_fn "<lambda>" (X.env.qual ++ "<lambda>") params body scope (cloFrom X.env.cells scope.names []) pm (.ref c') ctv) ⟨[], []⟩ = pure [])
    (tk : L2N.Takes ((cxOf (L2N.CX X.prog X.w) X.prog X.w X.K X.mg X.base Ng qg sg g cdg X.A X.stack s H Eg).tr pn xe) W) (hr : Room (k + 1) (X.A.deeper (envOfC qg sg s.heap.objs.size g cdg))) (hbody : ∀ (A : Around) (outer : List Env) (s : Shared) (H : Hp), Room k (A.deeper (lamEnv X scope s.heap.objs.size f c')) → PE (lamN X A outer s H E scope f c') body tb)
    (hN : Ng[i]? = some a) (hv : Vis sg a) (hd : (a == ("__debug__" : Str)) = false := by decide) (hcd : (a == ("__classdict__" : Str)) = false := by decide) :
    PE ((cxOf (L2N.CX X.prog X.w) X.prog X.w X.K X.mg X.base Ng qg sg g cdg X.A X.stack s H Eg).tr pn xe) (.Call (.Name a p1) [] [] p2)
      (fun σZ HZ Q => σZ[i]? = some (some (.ref f)) ∧ HZ c' = some (CodeO c' (X.env.qual ++ "<lambda>")) ∧ (∀ cls d H', E cls d H' → W cls d σZ H') ∧ tb σ HZ Q) := by
  refine ⟨fun pinsZ sZ σZ HZ Q IZ ⟨hs, hc, hW, ht⟩ => ?_⟩
  refine wpAny_Call_Name_kw (thn ((pe_var (pos := p1) (i := i) hN hv hd hcd).run pinsZ sZ σZ HZ (fun v H1 => v = .ref f ∧ H1 = HZ) IZ ⟨.ref f, hs, rfl, rfl⟩) fun u s1 ⟨v, H1, I1, r1, ev, eH⟩ => ?_)
  subst ev
  rw [eH] at I1
  obtain rfl : u = Value.ref f := r1
  have of1 : s1.heap.get? f = some (PySem.W.kla_obj "<lambda>" (X.env.qual ++ "<lambda>") params body scope (cloFrom X.env.cells scope.names []) pm c' ctv) := I1.base.keep f _ hf hfn hfr (fun z => nomatch (show f ∈ ([] : List Addr) from z))
  obtain ⟨⟨oc, vs, t, hoc, hdc, hvc⟩, _, _⟩ := I1.hok c' _ hc
  refine PySem.W.callWith_F0 ⟨_, _, _, _, of1⟩ (wpAny_call (codeAny_mono (R := CR (L2N.CX X.prog X.w) (envOfC qg sg s.heap.objs.size g cdg :: X.stack) X.prog X.w HZ s1 Q E) (PySem.W.kla_callFunE hr.depth of1 rfl L.co L.gen rfl ⟨c', oc, vs, t, rfl, hoc, hdc, hvc⟩ ?_) fun r s' hq => ?_))
  · refine wpAny_of_eq (a := []) hbind (wpAny_newFunctionEnv (fun y hy => (L.own y hy).2) (fun y hy => absurd hy (by simp)) (fun h₁ hns hsb => ⟨I1.nolimit.fresh _ hsb, ?_⟩) L.kind)
    show codeAny _ _ (.expr body (lamEnv X scope s1.heap.objs.size f c')) _ _
    have J0 := lam_start2 (E := E) (scope := scope) (f := f) (c' := c') (tk := s1.toks + ([] : List (Str × Value)).length) I L I1.env0 hr.hd I1.base hns fun b o e => hsb.extBut b o (Nat.ne_of_lt (Heap.lt_size e)) (Heap.get?_push_of_some _ e)
    refine PySem.W.kla_codeExpr (wpAny_mono ((hbody _ _ s1 HZ (hr.deeper _)).run [] _ _ HZ Q (J0.toTry _) ht) (fun v s' ⟨w', H', J', rv, q⟩ => ⟨w', H', J'.os, J'.bare, J'.base, J'.hok, rv, q⟩) fun e s' hq => hq)
  · cases r with
    | error e => exact tk _ _ (L2N.XE.of_call I1 (fun cls d H' h => hW cls d H' h) hq)
    | ok fl =>
      cases fl with
      | ret u => exact I1.after hq
      | next => exact False.elim hq
      | brk => exact False.elim hq
      | cont => exact False.elim hq
end
end Wn

set_option Elab.async false
set_option linter.all false
set_option maxRecDepth 100000
set_option maxHeartbeats 4000000
namespace Wn
open PySem PySem.Spec PyProof.Rows L2 HotX L2H LamX
/-- a(); except W as n: return en(n); return z -/
def tRef (K : PySem.W.Frag) (WE : Addr) (z : Str) (φ : Addr → Addr → (D → Prop) → Prop) (t : TD) : TD := fun δ P EP => t δ (fun _ => P (.str z)) (fun c => PySem.W.exmOne K (.ref c) (.ref WE) = some true ∧ ∀ a, φ a c P)
theorem takes0N {X : Cx} : L2N.Takes X (fun _ _ _ _ => False) := fun _ _ x => by
  obtain ⟨_, _, _, _, _, _, _, _, _, _, _, _, _, _, _, _, z⟩ := x
  exact z.elim
section
variable {X : Cx} {T : Tbl} {E : XK}
theorem pd_ref {x a n wn en z : Str} {st : Stmt} {g c P WE : Addr} {fd : FuncData} {sg : Scope} {k ke : Nat} {φ : Addr → Addr → (D → Prop) → Prop} {params : Arguments} {body : Expr} {scope : Scope} {t : TD} {p lpos pos p1 p2 p3 p4 p5 p6 p7 p8 p9 p10 p11 p12 : Pos} {j : Nat}
    (F : L2.Fun X.K x x st g fd) (hsg : defScope st = sg) (hbd : defBody st = [.Try [.Expr (.Call (.Name a p1) [] [] p2) p3] [.ExceptHandler (some (.Name wn p4)) (some n) [.Return (some (.Call (.Name en p5) [.Name n p6] [] p7)) p8] p9] [] [] p10, .Return (some (.Constant (.str z) j p11)) p12])
    (Sg : FnScope [a, n] [a] sg) (hva : sg.names.lookup a = some .local) (hvn : sg.names.lookup n = some .local) (hgw : sg.names.lookup wn = some .globalImplicit) (hge : sg.names.lookup en = some .globalImplicit) (hb : L2.Binds X.K fd [a] [])
    (hm : X.mg x = some (.ref g)) (hmw : X.mg wn = some (.ref WE)) (ce : ClE X.prog X.w X.K X.mg X.base T ke en φ) (TB : TabB X.base X.mg c P) (hcode : X.env.code = .ref c) (hmT : (P, X.env.qual ++ "<lambda>") ∈ T) (hu : ∀ p ∈ T, p.1 = P → p.2 = X.env.qual ++ "<lambda>") (hr : Room (k + 2) X.A) (hke : ke ≤ k + 1)
    (L : LamS X.env.scope scope) (hbody : ∀ (A : Around) (outer : List Env) (s : Shared) (H : Hp) (E : XK) (f c' : Addr), Room k (A.deeper (lamEnv X scope s.heap.objs.size f c')) → Passes (L2N.CX (lamN X A outer s H E scope f c').prog (lamN X A outer s H E scope f c').w) (lamN X A outer s H E scope f c') E → PE (lamN X A outer s H E scope f c') body (lF X.K T E t))
    (hdef : defaultsOf params X.env = ([], [])) (hbind : ∀ (q : Str) (cl : List (Str × Addr)) (pm cv ctv : Value), bindArgs (PySem.W.kla_fn "<lambda>" q params body scope cl pm cv ctv) ⟨[], []⟩ = pure [])
    (dd : (x == ("__debug__" : Str)) = false ∧ (a == ("__debug__" : Str)) = false ∧ (a == ("__classdict__" : Str)) = false ∧ (n == ("__debug__" : Str)) = false ∧ (n == ("__classdict__" : Str)) = false ∧ (wn == ("__debug__" : Str)) = false ∧ (en == ("__debug__" : Str)) = false := by decide) (hg : Gl X x := by rfl) :
    PE X (.Call (.Name x p) [.Lambda params body scope lpos] [] pos) (lF X.K T E (tRef X.K WE z φ t)) := by
  subst hsg
  obtain ⟨d1, d2, d3, d4, d5, d6, d7⟩ := dd
  obtain ⟨oc, od, kV, doc, pm0, an, cdv, ct, osl, rfl, lk, hcd⟩ := F.ex
  refine ⟨fun pins s σ H Q I ⟨δ, G0, H0, G, R, EP, LV, ht, kk⟩ => ?_⟩
  refine wpAny_Call_Name_kw (ld_glob I hg hm ?_ d1)
  refine PySem.W.callWith_K (h₀ := X.base) I.ok.mod.kin F.kp ?_ (by rfl) (by rfl)
  show wpAny _ _ (spliced ((false, eval (.Lambda params body scope lpos) X.env) :: backTo pos (starEach [] X.env))) _ _ s
  refine Calls.spliced_cons (lam_makeN I TB hcode hmT hu LV.rep.tab hdef (L.has I.ok) fun f c' pm ctv H1 s' I1 gr hf hfn hfr hco => Calls.spliced_nil ⟨I1.kIn, ?_⟩)
  refine wpAny_call (codeAny_mono (R := CR (L2N.CX X.prog X.w) X.stack X.prog X.w H1 s' Q C8.E0) (run_ofS (N := [a, n]) (ps := [a]) (us := [.ref f]) (vs := [.ref f]) lk hcd Sg hr I1.env0 (hb s' [.ref f] I1.kIn rfl) (.cons rfl .nil) rfl fun hr' => ?_) fun r s2 hq => ?_)
  · rw [hbd]
    have L1 := LV.gr (gr δ.s)
    have key := L2N.ps_try_as (X := cxOf (L2N.CX X.prog X.w) X.prog X.w X.K X.mg X.base [a, n] x (defScope st) g cdv X.A X.stack s' H1 C8.E0) (x := wn) (n := n) (c := .ref WE) (i := 1) (body := [.Expr (.Call (.Name a p1) [] [] p2) p3]) (b₀ := .Return (some (.Call (.Name en p5) [.Name n p6] [] p7)) p8) (suite := []) (np := p4) (pos := p10) (pos' := p9) (Wout := fun _ _ _ _ => False)
      (tb := fun W D σz H' => ∃ Ech : XK, σz[0]? = some (some (.ref f)) ∧ H' c' = some (CodeO c' (X.env.qual ++ "<lambda>")) ∧ (∀ cls d H2, Ech cls d H2 → W cls d σz H2) ∧ lF X.K T Ech t σ H' fun _ H2 => D.nx σz H2)
      (ts := fun a cls d D σz H' => ∃ C, cls = .ref C ∧ d = none ∧ lE X.K T 1 a C φ σz H' D.rt)
      rfl rfl Sg.nd rfl hvn ⟨hgw, d6, .inl hmw⟩ takes0N (fun W pn xe tk hp => ⟨fun pins s2 σz H' D I2 ⟨Ech, h1, h2, h3, h4⟩ => ?_⟩) (fun a1 oe cls d pn hz hf => ⟨fun pins s2 σz H' D I2 ⟨C, e1, e2, h⟩ => ?_⟩)
    · refine ⟨_, pss_cons key (pss_one (ps_ret pe_str)), ?_⟩
      have hl2 : (L2.start [a, n] [V.ref f]) = [some (.ref f), none] := rfl
      refine ⟨fun cls d H2 => ∃ c, cls = .ref c ∧ d = none ∧ (PySem.W.exmOne X.K (.ref c) (.ref WE) = some true ∧ ∀ a, φ a c R) ∧ Gr T δ.s H1 H2, rfl, hco, fun cls d H2 ⟨c, e1, e2, ⟨e3, e4⟩, g2⟩ => ?_, δ, G0, H0, G, _, _, ⟨L1.rep, fun c hc H2 g2 => ⟨c, rfl, rfl, hc, g2⟩⟩, ht, fun d hd v H2 G2 x2 r2 => ?_⟩
      · subst e1
        subst e2
        refine ⟨true, e3, fun _ a1 na => ?_, fun z => by cases z⟩
        have L2' := L1.gr g2
        have R0 : Rep X.K T G H2 G H2 (L2.start [a, n] [V.ref f]) ⟨δ.s, startD [a, n] [.ref f]⟩ := rep_start L2'.rep.src L2'.rep.tab L2'.rep.gv (.cons rfl .nil)
        exact ⟨c, rfl, rfl, _, G, H2, G, R, R0.setD (i := 1) (x := .ref a1) rfl, rfl, e4 a1, fun d hd v H3 G3 x3 r3 => kk d hd v H3 G3 ((Stp.of_gr LV.rep.gv ((gr δ.s).trans g2)).trans x3) r3⟩
      · exact kk _ hd _ H2 G (.of_gr LV.rep.gv ((gr δ.s).trans x2.gr)) rfl
    · exact (pss_one (ps_expr (pos := p3) (pe_actN (Eg := C8.E0) (sg := defScope st) (tb := lF X.K T Ech t) I1 L hf hfn hfr (hbind _ _ _ _ _) tk hr' (fun A outer s H hr2 => hbody A outer s H Ech f c' hr2 (passL (X := X) (A := A) (outer := outer) (s := s) (H := H) (E := Ech) (scope := scope) (f := f) (c' := c'))) (i := 0) (k := k) rfl (.inl hva) d2 d3))).run pins s2 σz H' D I2 ⟨h1, h2, h3, h4⟩
    · subst e1
      subst e2
      exact (pss_one (ps_ret (pos := p8) (pe_clE (X := cxOf (L2N.CX X.prog X.w) X.prog X.w X.K X.mg X.base [a, n] x (defScope st) g cdv X.A X.stack s' H1 C8.E0) (i := 1) ce ((roomH_of hr').mono hke) hz hf hge rfl (.inl hvn) d4 d5 d7))).run pins s2 σz H' D I2 h
  · cases r with
    | error e =>
      obtain ⟨_, _, _, _, _, _, _, _, _, _, _, _, q⟩ := (show L2N.CX X.prog X.w X.stack H1 s' C8.E0 e s2 from hq)
      exact q.elim
    | ok fl =>
      cases fl with
      | ret u => exact I1.after hq
      | next => exact False.elim hq
      | brk => exact False.elim hq
      | cont => exact False.elim hq
end
end Wn

set_option Elab.async false
set_option linter.all false
set_option maxRecDepth 100000
set_option maxHeartbeats 4000000
namespace Wn
open PySem L2
def isSr : Slot → Bool
  | .sr _ => true
  | _ => false
/-- the source may be laid into slot i -/
def srOk (i : Nat) (δ : DE) : Bool := (δ.sl.set i .no).all (fun o => !isSr o) && (match δ.s with
  | none => true
  | some _ => (match δ.sl[i]? with
    | some (.sr _) => true
    | _ => false))
def tSrcS (i : Nat) (te : TDL) : TDS := fun δ Z => srOk i δ = true ∧ te δ (fun ds => match ds with
  | [.int x, .int y] => (0 ≤ x ∧ 0 ≤ y ∧ y < 2147483648) ∧ ∀ a, Z.nx ⟨some a, δ.sl.set i (.sr a)⟩
  | _ => False) (Z.ex δ.s)
section
variable {K : PySem.W.Frag} {T : Tbl} {G0 H0 G H G' H' : Hp} {σ : L2.St} {δ : DE}
theorem rep_src {i : Nat} {a : Addr} {x y : Int} (R : Rep K T G0 H0 G H σ δ) (ok : srOk i δ = true) (st : Stp T δ.s G G' H H') (h1 : H a = none) (h2 : G' a = none) (h3 : H' a = some (.lst [.int x, .int y])) (b1 : 0 ≤ x) (b2 : 0 ≤ y) (b3 : y < 2147483648) :
    Rep K T G0 H0 G' H' (σ.set i (some (.ref a))) ⟨some a, δ.sl.set i (.sr a)⟩ := by
  unfold srOk at ok
  obtain ⟨ok1, ok2⟩ := Bool.and_eq_true_iff.mp ok
  have h0 : H0 a = none := R.st.gr.none_of h1
  have R' := R.stp st
  have old : ∀ b, δ.s = some b → H0 b = none := fun b e => by
    rw [e] at ok2
    cases q : δ.sl[i]? with
    | none =>
      rw [q] at ok2
      cases ok2
    | some o =>
      rw [q] at ok2
      cases o with
      | sr c =>
        obtain ⟨v, _, _, z1, z2⟩ := R.sl i _ q
        rw [e] at z1
        cases z1
        exact z2
      | _ => cases ok2
  have ns : ∀ j o, i ≠ j → δ.sl[j]? = some o → isSr o = false := fun j o c e => by
    have e2 : (δ.sl.set i .no)[j]? = some o := by
      rw [List.getElem?_set_ne c, e]
    have q := List.all_eq_true.mp ok1 o (List.mem_of_getElem? e2)
    cases z : isSr o with
    | false => rfl
    | true =>
      rw [z] at q
      cases q
  refine ⟨⟨⟨fun b o e => ?_, R'.st.gr.al, fun c e q => ?_, R'.st.gr.tb⟩, R'.st.gg, fun b o e => ?_, R'.st.nw⟩, fun c e => ?_, R'.tab, by rw [List.length_set, R.len]; exact (List.length_set ..).symm, fun j o h => ?_, fun j k c hjk q1 q2 e1 e2 => ?_⟩
  · obtain ⟨e1, e2, e3⟩ := vw_of e
    exact vw_at (vw_of (R'.st.gr.ex b o (vw_at e1 (fun z => by rw [old b z] at e1; cases e1) e3))).1 e2 e3
  · have e : a = c := Option.some.inj e
    obtain ⟨p, q, z, _⟩ := q
    rw [← e, h0] at z
    cases z
  · obtain ⟨e1, e2, e3⟩ := vw_of (R'.gv b o e)
    exact vw_at e1 (fun z => by
      have z : a = b := Option.some.inj z
      rw [← z, h2] at e
      cases e) e3
  · have e : a = c := Option.some.inj e
    rw [← e]
    exact ⟨x, y, h3, b1, b2, b3⟩
  · have h : (δ.sl.set i (.sr a))[j]? = some o := h
    by_cases c : i = j
    · subst c
      by_cases hi : i < δ.sl.length
      · rw [List.getElem?_set_self hi] at h
        cases h
        exact ⟨_, List.getElem?_set_self (by rw [R.len]; exact hi), rfl, rfl, h0⟩
      · rw [List.getElem?_eq_none (by rw [List.length_set]; omega)] at h
        cases h
    · rw [List.getElem?_set_ne c] at h ⊢
      obtain ⟨v, z1, z2⟩ := R.sl j o h
      obtain ⟨v', z3, z4⟩ := R'.sl j o h
      rw [z1] at z3
      cases z3
      refine ⟨v, z1, ?_⟩
      cases o with
      | no => trivial
      | d w => exact z4
      | sr b =>
        have q := ns j _ c h
        cases q
      | ow xs =>
        obtain ⟨b, us, e, k1, k2, k3, k4, k5⟩ := z4
        obtain ⟨b', us', e', _, _, _, k4', _⟩ := z2
        rw [e] at e'
        cases e'
        exact ⟨b, us, e, k1, fun z => (by have z : a = b := Option.some.inj z; rw [← z, h1] at k4'; cases k4'), k3, k4, k5⟩
      | oK ks xs =>
        obtain ⟨b, us, e, k1, k2, k3, k4, k5⟩ := z4
        obtain ⟨b', us', e', _, _, _, k4', _⟩ := z2
        rw [e] at e'
        cases e'
        exact ⟨b, us, e, k1, fun z => (by have z : a = b := Option.some.inj z; rw [← z, h1] at k4'; cases k4'), k3, k4, k5⟩
      | oT ks xs =>
        obtain ⟨b, us, e, k1, k2, k3, k4, k5⟩ := z4
        obtain ⟨b', us', e', _, _, _, k4', _⟩ := z2
        rw [e] at e'
        cases e'
        exact ⟨b, us, e, k1, fun z => (by have z : a = b := Option.some.inj z; rw [← z, h1] at k4'; cases k4'), k3, k4, k5⟩
  · have no : ∀ l, isOwn (δ.sl.set i (.sr a))[l]? = true → i ≠ l ∧ isOwn δ.sl[l]? = true := fun l hl => by
      by_cases c : i = l
      · subst c
        by_cases hi : i < δ.sl.length
        · rw [List.getElem?_set_self hi] at hl
          cases hl
        · rw [List.getElem?_eq_none (by rw [List.length_set]; omega)] at hl
          cases hl
      · rw [List.getElem?_set_ne c] at hl
        exact ⟨c, hl⟩
    obtain ⟨c1, k1⟩ := no j q1
    obtain ⟨c2, k2⟩ := no k q2
    rw [List.getElem?_set_ne c1] at e1
    rw [List.getElem?_set_ne c2] at e2
    exact R.un j k c hjk k1 k2 e1 e2
/-- the source is written -/
theorem Gr.srcw {a : Addr} {x y : Int} {us : List V} (hw : H a = some (.lst us)) (b1 : 0 ≤ x) (b2 : 0 ≤ y) (b3 : y < 2147483648) : Gr T (some a) H (upd H a (.lst [.int x, .int y])) where
  ex := fun b o e => by
    obtain ⟨e1, e2, e3⟩ := vw_of e
    exact vw_at (by rw [upd_ne (fun z => e2 (by rw [z]))]; exact e1) e2 e3
  al := fun b hb => by
    by_cases c : b = a
    · rw [c, upd_same]
      simp
    · rw [upd_ne c]
      exact hb
  sr := fun c e _ => by
    have e : a = c := Option.some.inj e
    rw [← e]
    exact ⟨x, y, upd_same, b1, b2, b3⟩
  tb := fun t p hp => by
    obtain ⟨ps, q1, q2, q3⟩ := t p hp
    have np : p.1 ≠ a := fun z => by
      rw [z, hw] at q1
      cases q1
    refine ⟨ps, by rw [upd_ne np]; exact q1, q2, fun pos cv hcv => ?_⟩
    obtain ⟨c, e1, e2⟩ := q3 pos cv hcv
    have nc : c ≠ a := fun z => by
      rw [z, hw] at e2
      unfold LamX.CodeO at e2
      cases e2
    exact ⟨c, e1, by rw [upd_ne nc]; exact e2⟩
end
/-- some number that the source may hold at j -/
def tSrcI (i j : Nat) : TD := fun δ P _ => ∃ a, δ.s = some a ∧ δ.sl[i]? = some (.d (.ref a)) ∧ ∀ z : Int, 0 ≤ z → (j = 1 → z < 2147483648) → P (.int z)
def tSrcW (i j : Nat) (te : TD) : TDS := fun δ Z => te δ (fun d => match d with
  | .int z => (0 ≤ z ∧ (j = 1 → z < 2147483648)) ∧ (∃ a, δ.s = some a ∧ δ.sl[i]? = some (.d (.ref a))) ∧ Z.nx δ
  | _ => False) (Z.ex δ.s)
section
variable {X : Cx} {K : PySem.W.Frag} {T : Tbl} {E : XK} {e : Expr} {pos : Pos}
theorem pd_srcS (i : Nat) {x : Str} {te : TDL} {pos' : Pos} (hN : X.N.Nodup) (he : PE X e (lN K T E te)) (hi : X.N[i]? = some x := by rfl) (hx : Loc X.env.scope x := by first | exact Or.inl rfl | exact Or.inr rfl) (hs : swapsWith e (some (.Name x pos')) pos.line X.env = pure false := by rfl)
    (hf : X.fn x = true ∨ X.env.scope.names.lookup x = some .local := by first | exact .inl rfl | exact .inr rfl) : PS X (.Assign [.Name x pos'] e pos) (lS K T E (tSrcS i te)) :=
  ps_imp (ps_set hN hi hx he hs hf) fun D σ H ⟨δ, G0, H0, G, Z, R, ⟨ok, h⟩, F⟩ => ⟨δ, G0, H0, G, _, _, F.lv R, h, fun ds hd a us H' G' st h1 h2 h3 r => by
    split at hd
    · rename_i x y
      have e2 : us = [V.int x, V.int y] := RpA.ints (ns := [x, y]) r
      rw [e2] at h3
      exact F.nx _ G' _ H' st.gg (rep_src R ok st h1 h2 h3 hd.1.1 hd.1.2.1 hd.1.2.2) (hd.2 a)
    · exact hd.elim⟩
theorem pd_srcI (i j : Nat) {x : Str} {p p2 : Pos} {k : Nat} (hj : j < 2) (hN : X.N[i]? = some x := by rfl) (hv : Vis X.env.scope x := by first | exact Or.inl rfl | exact Or.inr (Or.inl rfl) | exact Or.inr (Or.inr rfl)) (hd : (x == ("__debug__" : Str)) = false := by decide)
    (hcd : (x == ("__classdict__" : Str)) = false := by decide) (hs : PlainIx (.Constant (.int (j : Int)) k p2) := by intro _ _; rfl) : PE X (.Subscript (.Name x p) (.Constant (.int (j : Int)) k p2) pos) (lF X.K T E (tSrcI i j)) :=
  pe_imp (pe_ix ix_list (pe_var hN hv hd hcd) pe_int hs) fun σ H Q ⟨δ, G0, H0, G, P, EP, L, ⟨a, h1, h2, h3⟩, k⟩ => by
    obtain ⟨v, e1, r⟩ := rep_d L.rep h2
    obtain ⟨x, y, e2, b1, b2, b3⟩ := L.rep.src a h1
    have r : v = .ref a := r
    refine ⟨v, e1, a, [.int x, .int y], j, if j = 0 then .int x else .int y, r, rfl, .of e2, ?_, ?_⟩
    · rcases (show j = 0 ∨ j = 1 by omega) with z | z <;> subst z <;> rfl
    · rcases (show j = 0 ∨ j = 1 by omega) with z | z <;> subst z
      · exact k _ (h3 x b1 (fun z => by cases z)) _ H G (.refl L.rep.gv) rfl
      · exact k _ (h3 y b2 (fun _ => b3)) _ H G (.refl L.rep.gv) rfl
theorem pd_srcW (i j : Nat) {x : Str} {te : TD} {p p2 tpos : Pos} {k : Nat} (hj : j < 2) (he : PE X e (lF X.K T E te)) (hN : X.N[i]? = some x := by rfl) (hv : Vis X.env.scope x := by first | exact Or.inl rfl | exact Or.inr (Or.inl rfl) | exact Or.inr (Or.inr rfl)) (hd : (x == ("__debug__" : Str)) = false := by decide)
    (hcd : (x == ("__classdict__" : Str)) = false := by decide)
    (ha : ∀ v, assign (.Subscript (.Name x p) (.Constant (.int (j : Int)) k p2) tpos) X.env v = (do
      let ov ← holding [v] (eval (.Name x p) X.env)
      let iv ← holding [v, ov] (eval (.Constant (.int (j : Int)) k p2) X.env)
      standAt tpos
      holding [v, ov, iv] (setItem ov iv v)
      release [v, ov, iv] []) := by intro _; rfl) (hs : swapsWithSole [.Subscript (.Name x p) (.Constant (.int (j : Int)) k p2) tpos] e pos.line X.env = pure false := by rfl) (hw : swappedStores [.Subscript (.Name x p) (.Constant (.int (j : Int)) k p2) tpos] e X.env = pure none := by rfl)
    (h1 : (assignEach [.Subscript (.Name x p) (.Constant (.int (j : Int)) k p2) tpos] X.env).map (·.2) = [assign (.Subscript (.Name x p) (.Constant (.int (j : Int)) k p2) tpos) X.env] := by rfl) : PS X (.Assign [.Subscript (.Name x p) (.Constant (.int (j : Int)) k p2) tpos] e pos) (lS X.K T E (tSrcW i j te)) :=
  ps_imp (ps_asg he (pg_sub (pe_var hN hv hd hcd) pe_int set_list ha) hs hw h1) fun D σ H ⟨δ, G0, H0, G, Z, R, h, F⟩ => ⟨δ, G0, H0, G, _, _, F.lv R, h, fun d hd v H' G' st r => by
    cases d with
    | int z =>
      obtain ⟨⟨b1, b2⟩, ⟨a, e1, e2⟩, hz⟩ := hd
      have R' := R.stp st
      obtain ⟨w, e3, r2⟩ := rep_d R' e2
      have r2 : w = .ref a := r2
      obtain ⟨x, y, e4, c1, c2, c3⟩ := R'.src a e1
      refine ⟨w, e3, a, [.int x, .int y], j, j, r2, rfl, e4, ?_, ?_⟩
      · rcases (show j = 0 ∨ j = 1 by omega) with z | z <;> subst z <;> rfl
      · have r : v = .int z := r
        rw [r]
        rcases (show j = 0 ∨ j = 1 by omega) with q | q <;> subst q
        · exact F.nx _ G' σ _ st.gg (R'.gr (by rw [e1]; exact Gr.srcw e4 b1 c2 c3)) hz
        · exact F.nx _ G' σ _ st.gg (R'.gr (by rw [e1]; exact Gr.srcw e4 c1 b1 (b2 rfl))) hz
    | _ => exact hd.elim⟩
end
end Wn

set_option Elab.async false
set_option linter.all false
set_option maxRecDepth 100000
set_option maxHeartbeats 4000000
namespace Wn
open PySem PySem.Spec PyProof.Rows L2 LamX
def tIxO (i : Nat) (tb : TD) : TD := fun δ P EP => match δ.sl[i]? with
  | some (.ow xs) => tb δ (fun k => match k with
    | .int j => (match L2.atI xs j with
      | some d => P d
      | none => False)
    | _ => False) EP
  | _ => False
section
variable {X : Cx} {T : Tbl} {E : XK} {b : Expr} {pos : Pos} {tb : TD}
theorem pd_ixO (i : Nat) {x : Str} {p : Pos} (hb : PE X b (lR X.K T E tb)) (hN : X.N[i]? = some x := by rfl) (hv : Vis X.env.scope x := by first | exact Or.inl rfl | exact Or.inr (Or.inl rfl) | exact Or.inr (Or.inr rfl)) (hd : (x == ("__debug__" : Str)) = false := by decide)
    (hcd : (x == ("__classdict__" : Str)) = false := by decide) (hs : PlainIx b := by intro _ _; rfl) : PE X (.Subscript (.Name x p) b pos) (lF X.K T E (tIxO i tb)) :=
  pe_imp (pe_ix ix_list (pe_var (pos := p) hN hv hd hcd) hb hs) fun σ H Q ⟨δ, G0, H0, G, P, EP, L, ht, k⟩ => by
    unfold tIxO at ht
    cases e0 : δ.sl[i]? with
    | none =>
      rw [e0] at ht
      exact ht.elim
    | some o =>
      rw [e0] at ht
      cases o with
      | ow xs =>
        obtain ⟨v, h1, a, us, e2, q1, q3, q4, q5, q6⟩ := L.rep.sl i _ e0
        rw [e2] at h1
        refine ⟨.ref a, h1, δ, G0, H0, G, _, EP, L, ht, fun d hd w H2 g2 r2 => ?_⟩
        cases d with
        | int j =>
          have hd : (match L2.atI xs j with | some d => P d | none => False) := hd
          cases q2 : L2.atI xs j with
          | none =>
            rw [q2] at hd
            exact hd.elim
          | some d =>
            rw [q2] at hd
            obtain ⟨y, h3, h4⟩ := q6.atI q2
            exact ⟨a, us, j, y, rfl, r2, .of (vw_sub _ _ (g2.ex _ _ (vw_at q5 q3 fun ps z => by cases z))), h3, k d hd y H2 G (.of_gr L.rep.gv g2) h4⟩
        | _ => exact hd.elim
      | _ => exact ht.elim
end
section
variable {P : Program} {w : World} {K : PySem.W.Frag} {T : Tbl} {mg : Str → Option Value} {base : Heap} {x qual : Str} {st : Stmt} {f : Addr} {fd : FuncData} {N ps : List Str} {k n : Nat} {b : TDS}
/-- a def at a known place: its code object is the one that the head tells -/
theorem fn_Dc {p : Str × Option Str} (F : L2.Fun K x qual st (He.fAd K p) fd) (S : FnScope N ps (defScope st)) (hn : ps.length = n) (hb : ∀ (A : Around) (outer : List Env) (s : Shared) (H : Hp) (E : XK), Room k (A.deeper (envOfC qual (defScope st) s.heap.objs.size (He.fAd K p) (.ref (He.codeOf K p)))) →
      PSs (cxOf (L2N.CX P w) P w K mg base N qual (defScope st) (He.fAd K p) (.ref (He.codeOf K p)) A outer s H E) (defBody st) (lS K T E b)) : FnOk P w K mg base (L2N.CX P w) (k + 1) (He.fAd K p) fd ps (spD K T n (bodyF N b)) := by
  have F' := F
  obtain ⟨oc, od, kV, doc, pm, an, cdv, ct, osl, efd, lk, hcd⟩ := F.ex
  obtain ⟨c, rfl⟩ := He.codeIn_ref hcd
  subst efd
  have ec : He.codeOf K p = c := He.codeOf_eq lk rfl
  rw [ec] at hb
  refine fn_of lk hcd S (fun vs H Q E ⟨s, G, ds, P, EP, _, _, _, r, hl, _⟩ => by rw [r.len, hl, hn]) fun A outer s H vs Q E hr ⟨s0, G, ds, R, EP, src, tab, gv, r, hl, h, k1, k2⟩ => ⟨_, hb A outer s H E hr, ⟨s0, startD N ds⟩, G, H, G, _, rep_start src tab gv r, h, ?_⟩
  refine ⟨fun δ G' σ H' _ R hz => ?_, fun δ G' σ H' _ R hz => hz.elim, fun δ G' σ H' _ R hz => hz.elim, fun s' d hz v G' H' x r' => ?_, fun s' es hz a us G' H' x h1 h2 h4 h3 r' => ?_, fun s' c hz H' g => ?_⟩
  · obtain ⟨e, hp⟩ := hz
    exact k1 _ hp .non H' G' (by rw [← e]; exact R.st) rfl
  · obtain ⟨e, hp⟩ := hz
    exact k1 d hp v H' G' (by rw [← e]; exact x) r'
  · exact (fits_fn (K := K) (E := E) k1).rn s' es hz a us G' H' x h1 h2 h4 h3 r'
  · obtain ⟨e, hp⟩ := hz
    exact k2 c hp H' (by rw [← e]; exact g)
/-- nothing is promised -/
theorem Cl.void {sp : Sp} {k j : Nat} (c : Cl P w K mg base k x sp) {n : Nat} : Cl P w K mg base j x (spD K T n fun _ _ _ _ => False) := by
  obtain ⟨f, fd, ps, F, r⟩ := c.ex
  exact ⟨f, fd, ps, ⟨fun vs H Q E ⟨s, G, ds, P, EP, _, _, _, _, _, h, _⟩ => h.elim, fun A outer s H args us vs Q E _ _ _ _ ⟨s0, G, ds, P, EP, _, _, _, _, _, h, _⟩ => h.elim⟩, r⟩
/-- what returns a new list returns data -/
def fD (ψ : FnL) : Fn := fun s ds P EP => ψ s ds (fun es => P (.lst es)) EP
theorem spN_D {ψ : FnL} : ∀ vs H Q E, spD K T n (fD ψ) vs H Q E → spN K T n ψ vs H Q E := fun vs H Q E ⟨s, G, ds, P, EP, h1, h2, h3, h4, h5, h6, k1, k2⟩ => ⟨s, G, ds, _, EP, h1, h2, h3, h4, h5, h6, fun es hes a us H' G' x n1 n2 n3 r => by
  have sa : s ≠ some a := fun z => by
    obtain ⟨p, q, e, _⟩ := h1 a z
    rw [n1] at e
    cases e
  exact (fits_fn (K := K) (T := T) (E := E) (Q := Q) k1).rn s es ⟨rfl, hes⟩ a us G' H' x n1 n2 sa n3 r, k2⟩
theorem Cl.toA {a : Addr} {φ : Fn} (c : Cl P w K mg base k x (spD K T n φ)) (e : mg x = some (.ref a)) : ClA P w K mg base T k a n φ := by
  obtain ⟨f, fd, ps, F, hm, r⟩ := c.ex
  rw [e] at hm
  cases hm
  exact ⟨fd, ps, F, r⟩
end
end Wn

set_option Elab.async false
set_option linter.all false
set_option maxRecDepth 100000
set_option maxHeartbeats 4000000
namespace Wn
open PySem PySem.Spec PyProof.Rows L2 LamX
def spLaw (K : PySem.W.Frag) (T : Tbl) (n : Nat) : Sp := fun vs H Q E => ∃ a, ∃ ns : List Int, vs = [.ref a] ∧ SqL K H a (ns.map V.int) ∧ ns.length ≤ n ∧ (∀ z ∈ ns, Builtin.Int.intBits z ≤ 1048576) ∧ LamX.Tabs T H ∧ ∀ H', Q (.bl true) H'
theorem sqL_vwn {K : PySem.W.Frag} {H : Hp} {a : Addr} {xs : List V} (h : SqL K H a xs) : SqL K (vw none H) a xs := by
  rcases h with (h | ⟨o, h⟩) | h
  · exact .inl (.inl (vw_at h (fun z => by cases z) fun ps z => by cases z))
  · exact .inl (.inr ⟨o, vw_at h (fun z => by cases z) fun ps z => by cases z⟩)
  · exact .inr h
/-- what the law's reading is to show -/
def LawD (N : List Str) (b : TDS) (n : Nat) : Prop := ∀ ns : List Int, ns.length ≤ n → (∀ z ∈ ns, Builtin.Int.intBits z ≤ 1048576) → b ⟨none, startD N [.kl (ns.map D.int)]⟩ { nx := fun _ => False, rt := fun _ d => d = .bl true, rn := fun _ _ => False, ex := fun _ _ => False }
section
variable {P : Program} {w : World} {K : PySem.W.Frag} {T : Tbl} {mg : Str → Option Value} {base : Heap} {x qual : Str} {st : Stmt} {f : Addr} {fd : FuncData} {N ps : List Str} {k n : Nat} {b : TDS}
theorem fn_law (F : L2.Fun K x qual st f fd) (S : FnScope N ps (defScope st)) (hn : ps.length = 1) (hL : LawD N b n) (hb : ∀ (cdv : Value) (A : Around) (outer : List Env) (s : Shared) (H : Hp) (E : XK), Room k (A.deeper (envOfC qual (defScope st) s.heap.objs.size f cdv)) →
      PSs (cxOf (L2N.CX P w) P w K mg base N qual (defScope st) f cdv A outer s H E) (defBody st) (lS K T E b)) : FnOk P w K mg base (L2N.CX P w) (k + 1) f fd ps (spLaw K T n) := by
  refine fn_okX F S (fun vs H Q E ⟨a, ns, e, _⟩ => by rw [e, hn] <;> rfl) fun cdv A outer s0 H vs Q E hr ⟨a, ns, e, h1, h2, h3, h4, h5⟩ => ⟨_, hb cdv A outer s0 H E hr, ?_⟩
  subst e
  refine ⟨⟨none, startD N [.kl (ns.map D.int)]⟩, vw none H, H, vw none H, _, rep_start (fun a z => by cases z) h4 (.refl _) (.cons ⟨a, _, rfl, sqL_vwn h1, .of_ints ns⟩ .nil), hL ns h2 h3, ⟨fun δ G' σ H' _ R hz => hz.elim, fun δ G' σ H' _ R hz => hz.elim, fun δ G' σ H' _ R hz => hz.elim, fun s' d hz v G' H' x r' => ?_, fun s' es hz a us G' H' x h1 h2 h4 h3 r' => hz.elim, fun s' c hz H' g => hz.elim⟩⟩
  have hz : d = .bl true := hz
  rw [hz] at r'
  have r' : v = .bl true := r'
  rw [r']
  exact h5 H'
end
/-- where the def x makes its lambda -/
structure Tb (K : PySem.W.Frag) (base : Heap) (mg : Str → Option Value) (T : Tbl) (x : Str) : Prop where
  tb : TabB base mg (He.codeOf K (x, none)) (He.tabOf K (He.codeOf K (x, none)))
  mem : (He.tabOf K (He.codeOf K (x, none)), x ++ ".<locals>." ++ "<lambda>") ∈ T
  un : ∀ p ∈ T, p.1 = He.tabOf K (He.codeOf K (x, none)) → p.2 = x ++ ".<locals>." ++ "<lambda>"
end Wn

set_option Elab.async false
set_option linter.all false
set_option maxRecDepth 100000
set_option maxHeartbeats 4000000
namespace Wn
open PySem L2
/-! ### data of bounded depth -/
def D.ok : Nat → D → Bool
  | _, .non => true
  | _, .bl _ => true
  | _, .int _ => true
  | _, .str x => PyData.canLay0 (.str x)
  | n + 1, .tup ds => ds.all (D.ok n)
  | n + 1, .lst ds => ds.all (D.ok n)
  | _, _ => false
theorem pyA_ok {n : Nat} (ih : ∀ d : D, D.ok n d = true → ∃ p, d.py = some p ∧ p.canLay0 = true ∧ p.depth ≤ n) : ∀ ds : List D, ds.all (D.ok n) = true → ∃ ps, D.pyA ds = some ps ∧ PyData.canLayAll0 ps = true ∧ PyData.depthAll ps ≤ n
  | [], _ => ⟨[], rfl, rfl, Nat.zero_le _⟩
  | d :: ds, h => by
    rw [List.all_cons, Bool.and_eq_true] at h
    obtain ⟨p, h1, h2, h3⟩ := ih d h.1
    obtain ⟨ps, k1, k2, k3⟩ := pyA_ok ih ds h.2
    refine ⟨p :: ps, ?_, ?_, ?_⟩
    · unfold D.pyA
      rw [h1, k1]
    · unfold PyData.canLayAll0
      rw [h2, k2] <;> rfl
    · unfold PyData.depthAll
      omega
theorem D.ok_py : ∀ (n : Nat) (d : D), D.ok n d = true → ∃ p, d.py = some p ∧ p.canLay0 = true ∧ p.depth ≤ n := by
  intro n
  induction n with
  | zero =>
    intro d h
    cases d with
    | non => exact ⟨.none, by unfold D.py; rfl, rfl, Nat.zero_le _⟩
    | bl b => exact ⟨.bool b, by unfold D.py; rfl, rfl, Nat.zero_le _⟩
    | int i => exact ⟨.int i, by unfold D.py; rfl, rfl, Nat.zero_le _⟩
    | str x => exact ⟨.str x, by unfold D.py; rfl, h, Nat.zero_le _⟩
    | _ => cases h
  | succ n ih =>
    intro d h
    cases d with
    | non => exact ⟨.none, by unfold D.py; rfl, rfl, Nat.zero_le _⟩
    | bl b => exact ⟨.bool b, by unfold D.py; rfl, rfl, Nat.zero_le _⟩
    | int i => exact ⟨.int i, by unfold D.py; rfl, rfl, Nat.zero_le _⟩
    | str x => exact ⟨.str x, by unfold D.py; rfl, h, Nat.zero_le _⟩
    | tup ds =>
      obtain ⟨ps, h1, h2, h3⟩ := pyA_ok ih ds h
      exact ⟨.tuple ps, by unfold D.py; rw [h1]; rfl, by unfold PyData.canLay0; exact h2, by unfold PyData.depth; omega⟩
    | lst ds =>
      obtain ⟨ps, h1, h2, h3⟩ := pyA_ok ih ds h
      exact ⟨.list ps, by unfold D.py; rw [h1]; rfl, by unfold PyData.canLay0; exact h2, by unfold PyData.depth; omega⟩
    | _ => cases h
theorem D.ok_mono : ∀ (n m : Nat) (d : D), n ≤ m → D.ok n d = true → D.ok m d = true := by
  intro n
  induction n with
  | zero =>
    intro m d _ h
    cases d <;> first
      | (cases h; done)
      | (cases m <;> first | rfl | exact h)
  | succ n ih =>
    intro m d hm h
    obtain ⟨m, rfl⟩ : ∃ k, m = k + 1 := ⟨m - 1, by omega⟩
    cases d with
    | tup ds => exact List.all_eq_true.mpr fun x hx => ih m x (by omega) (List.all_eq_true.mp h x hx)
    | lst ds => exact List.all_eq_true.mpr fun x hx => ih m x (by omega) (List.all_eq_true.mp h x hx)
    | non => rfl
    | bl b => rfl
    | int i => rfl
    | str x => exact h
    | _ => cases h
theorem D.ok_ty {n : Nat} {d : D} (h : D.ok n d = true) : d.ty.isSome = true := by
  cases n <;> cases d <;> first
    | rfl
    | cases h
theorem shaped_ok {n : Nat} {d : D} (h : D.ok n d = true) (hn : n ≤ 64) : ∃ p, d.py = some p ∧ SeqAt.shaped p = true := by
  obtain ⟨p, h1, h2, h3⟩ := D.ok_py n d h
  exact ⟨p, h1, by unfold SeqAt.shaped; rw [h2, decide_eq_true (by omega)]; rfl⟩
/-- == by data, as a Bool -/
def D.eqB (x y : D) : Bool := match x.py, y.py with
  | some p, some q => PyData.eqv p q
  | _, _ => false
theorem dEq_ok {neg : Bool} {x y : D} {P : D → Prop} (hx : D.ok 64 x = true) (hy : D.ok 64 y = true) (h : P (.bl (if neg then !D.eqB x y else D.eqB x y))) : dEq neg x y P := by
  obtain ⟨p, p1, p2⟩ := shaped_ok hx (Nat.le_refl _)
  obtain ⟨q, q1, q2⟩ := shaped_ok hy (Nat.le_refl _)
  unfold dEq
  unfold D.eqB at h
  rw [p1, q1] at h ⊢
  exact ⟨⟨p2, q2⟩, h⟩
theorem eqB_int (i j : Int) : D.eqB (.int i) (.int j) = (i == j) := by
  unfold D.eqB D.py PyData.eqv
  rfl
theorem eqv_ints : ∀ ns ms : List Int, PyData.eqvAll (ns.map PyData.int) (ms.map PyData.int) = (ns == ms)
  | [], [] => rfl
  | [], _ :: _ => rfl
  | _ :: _, [] => rfl
  | n :: ns, m :: ms => by
    show (PyData.eqv (.int n) (.int m) && PyData.eqvAll (ns.map PyData.int) (ms.map PyData.int)) = (n :: ns == m :: ms)
    rw [eqv_ints ns ms]
    show ((n == m) && (ns == ms)) = (n :: ns == m :: ms)
    rfl
theorem pyA_ints : ∀ ns : List Int, D.pyA (ns.map D.int) = some (ns.map PyData.int)
  | [] => rfl
  | n :: ns => by
    show D.pyA (.int n :: ns.map D.int) = _
    unfold D.pyA
    rw [pyA_ints ns]
    unfold D.py
    rfl
theorem ok_int {n : Nat} {i : Int} : D.ok n (.int i) = true := by cases n <;> rfl
theorem ok_ints {n : Nat} : ∀ ns : List Int, (ns.map D.int).all (D.ok n) = true
  | [] => rfl
  | m :: ns => by
    rw [List.map_cons, List.all_cons, ok_int, ok_ints ns] <;> rfl
theorem ok_lstI {n : Nat} (ns : List Int) : D.ok (n + 1) (.lst (ns.map D.int)) = true := ok_ints ns
theorem ok_tupI {n : Nat} (ns : List Int) : D.ok (n + 1) (.tup (ns.map D.int)) = true := ok_ints ns
theorem eqB_lstI (ns ms : List Int) : D.eqB (.lst (ns.map D.int)) (.lst (ms.map D.int)) = (ns == ms) := by
  unfold D.eqB D.py
  rw [pyA_ints, pyA_ints]
  show PyData.eqv (.list (ns.map PyData.int)) (.list (ms.map PyData.int)) = _
  unfold PyData.eqv
  exact eqv_ints ns ms
theorem eqB_nil (ds : List D) (h : (ds.all (D.ok 63)) = true) : D.eqB (.lst ds) (.lst []) = ds.isEmpty := by
  obtain ⟨ps, h1, _⟩ := pyA_ok (n := 63) (D.ok_py 63) ds h
  unfold D.eqB D.py
  rw [h1]
  cases ds with
  | nil =>
    cases h1
    rfl
  | cons d ds =>
    cases ps with
    | nil =>
      unfold D.pyA at h1
      split at h1 <;> cases h1
    | cons p ps => rfl
theorem eqB_bl (a b : Bool) : D.eqB (.bl a) (.bl b) = (a == b) := by
  unfold D.eqB D.py PyData.eqv
  rfl
/-! ### comprehensions -/
theorem comp_map {g : TGD} {e : TD} {δ : DE} {P : List D → Prop} (F : D → D) : ∀ (xs acc : List D), (∀ x ∈ xs, ∀ Q : D → Prop, Q (F x) → g x δ fun δ' => e δ' Q noEx) → P (acc ++ xs.map F) → compD g yesD e δ P xs acc
  | [], acc, _, h => by
    rw [List.map_nil, List.append_nil] at h
    exact h
  | x :: r, acc, he, h => by
    unfold compD
    refine he x List.mem_cons_self (fun y => compD g yesD e δ P r (acc ++ [y])) ?_
    refine comp_map F r _ (fun y hy => he y (List.mem_cons_of_mem _ hy)) ?_
    rw [List.append_assoc]
    exact h
theorem comp_gen {g : TGD} {c : TDB} {e : TD} {δ : DE} {P : List D → Prop} (Dx : D → DE) (b : D → Bool) (F : D → D) : ∀ (xs acc : List D), (∀ x ∈ xs, ∀ Q : DE → Prop, Q (Dx x) → g x δ Q) → (∀ x ∈ xs, ∀ Q : Bool → Prop, Q (b x) → c (Dx x) Q noEx) → (∀ x ∈ xs, b x = true → ∀ Q : D → Prop, Q (F x) → e (Dx x) Q noEx) → P (acc ++ (xs.filter b).map F) → compD g c e δ P xs acc
  | [], acc, _, _, _, h => by
    rw [List.filter_nil, List.map_nil, List.append_nil] at h
    exact h
  | x :: r, acc, hg, hc, he, h => by
    unfold compD
    refine hg x List.mem_cons_self _ (hc x List.mem_cons_self _ ?_)
    cases q : b x with
    | true =>
      rw [List.filter_cons_of_pos q] at h
      refine he x List.mem_cons_self q (fun y => compD g c e δ P r (acc ++ [y])) (comp_gen Dx b F r _ (fun y hy => hg y (List.mem_cons_of_mem _ hy)) (fun y hy => hc y (List.mem_cons_of_mem _ hy)) (fun y hy => he y (List.mem_cons_of_mem _ hy)) ?_)
      rw [List.append_assoc]
      exact h
    | false =>
      rw [List.filter_cons_of_neg (by rw [q]; exact Bool.false_ne_true)] at h
      exact comp_gen Dx b F r acc (fun y hy => hg y (List.mem_cons_of_mem _ hy)) (fun y hy => hc y (List.mem_cons_of_mem _ hy)) (fun y hy => he y (List.mem_cons_of_mem _ hy)) h
theorem comp_fil {j : Nat} {c : TDB} {e : TD} {δ : DE} {P : List D → Prop} (b : D → Bool) (F : D → D) (xs acc : List D) (hc : ∀ x ∈ xs, ∀ Q : Bool → Prop, Q (b x) → c (δ.set j (.d x)) Q noEx) (he : ∀ x ∈ xs, b x = true → ∀ Q : D → Prop, Q (F x) → e (δ.set j (.d x)) Q noEx) (h : P (acc ++ (xs.filter b).map F)) : compD (gN j) c e δ P xs acc :=
  comp_gen (fun x => δ.set j (.d x)) b F xs acc (fun _ _ _ q => q) hc he h
/-- items that are drawn -/
theorem comp_any {g : TGD} {e : TD} {δ : DE} {P : List D → Prop} (R : D → Prop) : ∀ (xs acc : List D), (∀ x ∈ xs, ∀ Q : D → Prop, (∀ y, R y → Q y) → g x δ fun δ' => e δ' Q noEx) → (∀ ys : List D, ys.length = xs.length → (∀ y ∈ ys, R y) → P (acc ++ ys)) → compD g yesD e δ P xs acc
  | [], acc, _, h => by
    have q := h [] rfl (fun y hy => by cases hy)
    rw [List.append_nil] at q
    exact q
  | x :: r, acc, he, h => by
    unfold compD
    refine he x List.mem_cons_self (fun y => compD g yesD e δ P r (acc ++ [y])) fun y hy => comp_any R r _ (fun z hz => he z (List.mem_cons_of_mem _ hz)) fun ys hl hys => ?_
    rw [List.append_assoc]
    refine h (y :: ys) (by rw [List.length_cons, List.length_cons, hl]) fun z hz => ?_
    rcases List.mem_cons.mp hz with e1 | hz
    · rw [e1]
      exact hy
    · exact hys z hz
theorem onBls_mk {xs : List D} {ns : List Bool} {k : List Bool → Prop} (e : blsOf xs = some ns) (h : k ns) : onBls (.lst xs) k := by
  show (match blsOf xs with | some ns => k ns | none => False)
  rw [e]
  exact h
theorem onInts_mk {xs : List D} {ns : List Int} {k : List Int → Prop} (e : intsOf xs = some ns) (h : k ns) : onInts (.lst xs) k := by
  show (match intsOf xs with | some ns => k ns | none => False)
  rw [e]
  exact h
theorem onInts_mkT {xs : List D} {ns : List Int} {k : List Int → Prop} (e : intsOf xs = some ns) (h : k ns) : onInts (.tup xs) k := by
  show (match intsOf xs with | some ns => k ns | none => False)
  rw [e]
  exact h
/-! ### loops -/
/-- I holds ahead of each turn -/
theorem loop_inv {g : TGD} {b : TDS} {Z : DEnds} (I : DE → Prop) : ∀ (xs : List D) (δ : DE), I δ → (∀ δ, I δ → Z.nx δ) → (∀ x ∈ xs, ∀ δ, I δ → ∀ K : DE → Prop, (∀ δ', I δ' → K δ') → g x δ fun δ' => b δ' { Z with nx := K, ct := K, bk := Z.nx }) → loopD g b Z xs δ
  | [], δ, h, hn, _ => hn δ h
  | x :: r, δ, h, hn, ht => by
    unfold loopD
    exact ht x List.mem_cons_self δ h (loopD g b Z r) fun δ' h' => loop_inv I r δ' h' hn fun y hy => ht y (List.mem_cons_of_mem _ hy)
/-- .. by the items that are done -/
theorem loop_pre {g : TGD} {b : TDS} {Z : DEnds} (all : List D) (I : Nat → DE → Prop) : ∀ (n : Nat) (δ : DE), n ≤ all.length → I n δ → (∀ δ, I all.length δ → Z.nx δ) → (∀ (i : Nat) (x : D), all[i]? = some x → ∀ δ, I i δ → ∀ K : DE → Prop, (∀ δ', I (i + 1) δ' → K δ') → g x δ fun δ' => b δ' { Z with nx := K, ct := K, bk := Z.nx }) → loopD g b Z (all.drop n) δ := by
  intro n
  induction h : all.length - n generalizing n with
  | zero =>
    intro δ hn h0 hz ht
    have e : n = all.length := by omega
    rw [e, List.drop_length]
    exact hz δ (by rw [← e]; exact h0)
  | succ m ih =>
    intro δ hn h0 hz ht
    have hl : n < all.length := by omega
    rw [List.drop_eq_getElem_cons hl]
    unfold loopD
    exact ht n _ (List.getElem?_eq_getElem hl) δ h0 (loopD g b Z (all.drop (n + 1))) fun δ' h' => ih (n + 1) (by omega) δ' hl h' hz ht
theorem rgD_mem {lo : Int} {n : Nat} {x : D} (h : x ∈ rgD lo n) : ∃ k : Nat, k < n ∧ x = .int (lo + k) := by
  unfold rgD at h
  obtain ⟨k, hk, e⟩ := List.mem_map.mp h
  exact ⟨k, List.mem_range.mp hk, e.symm⟩
end Wn

set_option Elab.async false
set_option linter.all false
namespace Wn
open PySem PySem.Spec PyProof.Rows L2
theorem e_tNF (t : TDL) (δ : DE) (P : D → Prop) (EP : Addr → Prop) : tNF t δ P EP = (t δ (fun ds => P (.lst ds)) EP) := Eq.trans rfl rfl
theorem e_tSc (t : TD) (δ : DE) (P : D → Prop) (EP : Addr → Prop) : tSc t δ P EP = (t δ (fun d => isSc d = true ∧ P d) EP) := Eq.trans rfl rfl
theorem e_tK (d : D) (w0 : DE) (P : D → Prop) (w2 : Addr → Prop) : tK d w0 P w2 = (P d) := Eq.trans rfl rfl
theorem e_tN (i : Nat) (δ : DE) (P : D → Prop) (w2 : Addr → Prop) : tN i δ P w2 = (match δ.sl[i]? with
  | some (.d x) => P x
  | some (.sr a) => P (.ref a)
  | _ => False) := Eq.trans rfl rfl
theorem e_tR (i : Nat) (δ : DE) (P : D → Prop) (w2 : Addr → Prop) : tR i δ P w2 = (match δ.sl[i]? with
  | some o => (match rdS o with
    | some x => P x
    | none => False)
  | none => False) := Eq.trans rfl rfl
theorem e_t2 (f : D → D → (D → Prop) → Prop) (ta tb : TD) (δ : DE) (P : D → Prop) (EP : Addr → Prop) : t2 f ta tb δ P EP = (ta δ (fun x => tb δ (fun y => f x y P) EP) EP) := Eq.trans rfl rfl
theorem e_tCh (f f' : D → D → (D → Prop) → Prop) (ta tb tc : TD) (δ : DE) (P : D → Prop) (EP : Addr → Prop) : tCh f f' ta tb tc δ P EP = (ta δ (fun x => tb δ (fun y => f x y (fun z => match z with
  | .bl true => tc δ (fun u => f' y u P) EP
  | .bl false => P (.bl false)
  | _ => False)) EP) EP) := Eq.trans rfl rfl
theorem e_tBl (t : TD) (δ : DE) (P : Bool → Prop) (EP : Addr → Prop) : tBl t δ P EP = (t δ (fun d => match d with
  | .bl b => P b
  | _ => False) EP) := Eq.trans rfl rfl
theorem e_tAndB (t u : TDB) (δ : DE) (P : Bool → Prop) (EP : Addr → Prop) : tAndB t u δ P EP = (t δ (fun b => match b with
  | true => u δ P EP
  | false => P false) EP) := Eq.trans rfl rfl
theorem e_tOrB (t u : TDB) (δ : DE) (P : Bool → Prop) (EP : Addr → Prop) : tOrB t u δ P EP = (t δ (fun b => match b with
  | true => P true
  | false => u δ P EP) EP) := Eq.trans rfl rfl
theorem e_tNotB (t : TDB) (δ : DE) (P : Bool → Prop) (EP : Addr → Prop) : tNotB t δ P EP = (t δ (fun b => P (!b)) EP) := Eq.trans rfl rfl
theorem e_tBV (t : TDB) (δ : DE) (P : D → Prop) (EP : Addr → Prop) : tBV t δ P EP = (t δ (fun b => P (.bl b)) EP) := Eq.trans rfl rfl
theorem e_tAndD (t u : TD) (δ : DE) (P : D → Prop) (EP : Addr → Prop) : tAndD t u δ P EP = (t δ (fun d => match d with
  | .bl true => u δ P EP
  | .bl false => P (.bl false)
  | _ => False) EP) := Eq.trans rfl rfl
theorem e_tOrD (t u : TD) (δ : DE) (P : D → Prop) (EP : Addr → Prop) : tOrD t u δ P EP = (t δ (fun d => match d with
  | .bl true => P (.bl true)
  | .bl false => u δ P EP
  | _ => False) EP) := Eq.trans rfl rfl
theorem e_tNotD (t : TD) (δ : DE) (P : D → Prop) (EP : Addr → Prop) : tNotD t δ P EP = (t δ (fun d => match d with
  | .bl b => P (.bl (!b))
  | _ => False) EP) := Eq.trans rfl rfl
theorem e_tNeg (t : TD) (δ : DE) (P : D → Prop) (EP : Addr → Prop) : tNeg t δ P EP = (t δ (fun d => match d with
  | .int i => P (.int (-i))
  | _ => False) EP) := Eq.trans rfl rfl
theorem e_tIfE (c : TDB) (t u : TD) (δ : DE) (P : D → Prop) (EP : Addr → Prop) : tIfE c t u δ P EP = (c δ (fun b => match b with
  | true => t δ P EP
  | false => u δ P EP) EP) := Eq.trans rfl rfl
theorem e_tIfL (c : TDB) (t u : TDL) (δ : DE) (P : List D → Prop) (EP : Addr → Prop) : tIfL c t u δ P EP = (c δ (fun b => match b with
  | true => t δ P EP
  | false => u δ P EP) EP) := Eq.trans rfl rfl
theorem e_tA0 (w0 : DE) (P : List D → Prop) (w2 : Addr → Prop) : tA0  w0 P w2 = (P []) := Eq.trans rfl rfl
theorem e_tA1 (t : TD) (r : TDL) (δ : DE) (P : List D → Prop) (EP : Addr → Prop) : tA1 t r δ P EP = (t δ (fun x => r δ (fun xs => P (x :: xs)) EP) EP) := Eq.trans rfl rfl
theorem e_tTupD (t : TDL) (δ : DE) (P : D → Prop) (EP : Addr → Prop) : tTupD t δ P EP = (tSize t δ (fun ds => P (.tup ds)) EP) := Eq.trans rfl rfl
theorem e_tCD (f : List D → (D → Prop) → Prop) (t : TDL) (δ : DE) (P : D → Prop) (EP : Addr → Prop) : tCD f t δ P EP = (t δ (fun ds => f ds P) EP) := Eq.trans rfl rfl
theorem e_tItl (t : TD) (δ : DE) (P : List D → Prop) (EP : Addr → Prop) : tItl t δ P EP = (t δ (fun d => match d with
  | .lst xs => P xs
  | _ => False) EP) := Eq.trans rfl rfl
theorem e_tOwn (i : Nat) (δ : DE) (P : List D → Prop) (w2 : Addr → Prop) : tOwn i δ P w2 = (match δ.sl[i]? with
  | some (.ow xs) => P xs
  | some (.d (.lst xs)) => P xs
  | _ => False) := Eq.trans rfl rfl
theorem e_tIs (k : Ty) (t : TD) (δ : DE) (P : D → Prop) (EP : Addr → Prop) : tIs k t δ P EP = (t δ (fun d => match d.ty with
  | some a => P (.bl (isTy a k))
  | none => False) EP) := Eq.trans rfl rfl
theorem e_tIx (ta tb : TD) (δ : DE) (P : D → Prop) (EP : Addr → Prop) : tIx ta tb δ P EP = (ta δ (fun x => tb δ (fun i => dIx x i P) EP) EP) := Eq.trans rfl rfl
theorem e_tO0 (w0 : DE) (P : Option Int → Prop) (w2 : Addr → Prop) : tO0  w0 P w2 = (P none) := Eq.trans rfl rfl
theorem e_tO1 (t : TD) (δ : DE) (P : Option Int → Prop) (EP : Addr → Prop) : tO1 t δ P EP = (t δ (fun d => match d with
  | .int i => P (some i)
  | _ => False) EP) := Eq.trans rfl rfl
theorem e_tSlL (te : TDL) (tl th : TDO) (δ : DE) (P : List D → Prop) (EP : Addr → Prop) : tSlL te tl th δ P EP = (te δ (fun xs => tl δ (fun lo => th δ (fun hi => P (cutD xs lo hi)) EP) EP) EP) := Eq.trans rfl rfl
theorem e_tSlT (te : TD) (tl th : TDO) (δ : DE) (P : D → Prop) (EP : Addr → Prop) : tSlT te tl th δ P EP = (te δ (fun x => tl δ (fun lo => th δ (fun hi => match x with
  | .tup xs => P (.tup (cutD xs lo hi))
  | _ => False) EP) EP) EP) := Eq.trans rfl rfl
theorem e_tRev (t : TDL) (δ : DE) (P : List D → Prop) (EP : Addr → Prop) : tRev t δ P EP = (t δ (fun xs => P xs.reverse) EP) := Eq.trans rfl rfl
theorem e_tCatL (ta tb : TDL) (δ : DE) (P : List D → Prop) (EP : Addr → Prop) : tCatL ta tb δ P EP = (ta δ (fun xs => tb δ (fun ys => szOk (xs.length + ys.length) (P (xs ++ ys))) EP) EP) := Eq.trans rfl rfl
theorem e_tRepL (ta : TDL) (tb : TD) (δ : DE) (P : List D → Prop) (EP : Addr → Prop) : tRepL ta tb δ P EP = (ta δ (fun xs => tb δ (fun d => match d with
  | .int k => (-(2 ^ 63) ≤ k ∧ k < 2 ^ 63) ∧ szOk (xs.length * k.toNat) (P (List.replicate k.toNat xs).flatten)
  | _ => False) EP) EP) := Eq.trans rfl rfl
theorem e_tCatT (ta tb : TD) (δ : DE) (P : D → Prop) (EP : Addr → Prop) : tCatT ta tb δ P EP = (ta δ (fun x => tb δ (fun y => match x, y with
  | .tup xs, .tup ys => szOk (xs.length + ys.length) (P (.tup (xs ++ ys)))
  | _, _ => False) EP) EP) := Eq.trans rfl rfl
theorem e_tRepT (ta tb : TD) (δ : DE) (P : D → Prop) (EP : Addr → Prop) : tRepT ta tb δ P EP = (ta δ (fun x => tb δ (fun y => match x, y with
  | .tup xs, .int k => (xs ≠ [] ∧ 2 ≤ k ∧ k ≤ 1000 ∧ xs.length ≤ 1000) ∧ P (.tup (List.replicate k.toNat xs).flatten)
  | _, _ => False) EP) EP) := Eq.trans rfl rfl
theorem e_tTupI (t : TD) (δ : DE) (P : List D → Prop) (EP : Addr → Prop) : tTupI t δ P EP = (t δ (fun d => match d with
  | .tup xs => P xs
  | _ => False) EP) := Eq.trans rfl rfl
theorem e_tTupL (t : TDL) (δ : DE) (P : D → Prop) (EP : Addr → Prop) : tTupL t δ P EP = (t δ (fun xs => P (.tup xs)) EP) := Eq.trans rfl rfl
theorem e_sqD (t u : TDS) (δ : DE) (Z : DEnds) : sqD t u δ Z = (t δ { Z with nx := fun δ' => u δ' Z }) := Eq.trans rfl rfl
theorem e_nxD (δ : DE) (Z : DEnds) : nxD  δ Z = (Z.nx δ) := Eq.trans rfl rfl
theorem e_tFz (i : Nat) (t : TDS) (δ : DE) (Z : DEnds) : tFz i t δ Z = (t (fzD i δ) Z) := Eq.trans rfl rfl
theorem e_tEx (te : TD) (δ : DE) (Z : DEnds) : tEx te δ Z = (te δ (fun _ => Z.nx δ) (Z.ex δ.s)) := Eq.trans rfl rfl
theorem e_tRt (te : TD) (δ : DE) (Z : DEnds) : tRt te δ Z = (te δ (fun d => Z.rt δ.s d) (Z.ex δ.s)) := Eq.trans rfl rfl
theorem e_tRn (te : TDL) (δ : DE) (Z : DEnds) : tRn te δ Z = (te δ (fun ds => Z.rn δ.s ds) (Z.ex δ.s)) := Eq.trans rfl rfl
theorem e_tRo (i : Nat) (δ : DE) (Z : DEnds) : tRo i δ Z = (match δ.sl[i]? with
  | some (.ow xs) => Z.rn δ.s xs
  | _ => False) := Eq.trans rfl rfl
theorem e_tSet (i : Nat) (te : TD) (δ : DE) (Z : DEnds) : tSet i te δ Z = (te δ (fun d => Z.nx (δ.set i (.d d))) (Z.ex δ.s)) := Eq.trans rfl rfl
theorem e_tSetN (i : Nat) (te : TDL) (δ : DE) (Z : DEnds) : tSetN i te δ Z = (te δ (fun ds => Z.nx (δ.set i (.ow ds))) (Z.ex δ.s)) := Eq.trans rfl rfl
theorem e_tIf (c : TDB) (t u : TDS) (δ : DE) (Z : DEnds) : tIf c t u δ Z = (c δ (fun b => match b with
  | true => t δ Z
  | false => u δ Z) (Z.ex δ.s)) := Eq.trans rfl rfl
theorem e_tRs (C : Addr) (δ : DE) (Z : DEnds) : tRs C δ Z = (Z.ex δ.s C) := Eq.trans rfl rfl
theorem e_tSetG (g : TGD) (te : TD) (δ : DE) (Z : DEnds) : tSetG g te δ Z = (te δ (fun d => g d δ Z.nx) (Z.ex δ.s)) := Eq.trans rfl rfl
theorem e_tForL (tl : TDL) (g : TGD) (b : TDS) (δ : DE) (Z : DEnds) : tForL tl g b δ Z = (tl δ (fun xs => loopD g b Z xs δ) (Z.ex δ.s)) := Eq.trans rfl rfl
theorem e_tRg1 (t : TDL) (δ : DE) (P : List D → Prop) (EP : Addr → Prop) : tRg1 t δ P EP = (t δ (fun ds => match ds with
  | [.int j] => (-(2 ^ 62) ≤ j ∧ j < 2 ^ 62) ∧ P (rgD 0 j.toNat)
  | _ => False) EP) := Eq.trans rfl rfl
theorem e_tRg2 (t : TDL) (δ : DE) (P : List D → Prop) (EP : Addr → Prop) : tRg2 t δ P EP = (t δ (fun ds => match ds with
  | [.int i, .int j] => (-(2 ^ 62) ≤ i ∧ i < 2 ^ 62 ∧ -(2 ^ 62) ≤ j ∧ j < 2 ^ 62) ∧ P (rgD i (j - i).toNat)
  | _ => False) EP) := Eq.trans rfl rfl
theorem e_tWh (c : TDB) (b : TDS) (δ : DE) (Z : DEnds) : tWh c b δ Z = (∃ W : Nat → DE → Prop, (∃ m, W m δ) ∧ ∀ m δ, W m δ → c δ (fun q => match q with
  | true => b δ { Z with nx := fun δ' => ∃ m', m' < m ∧ W m' δ', ct := fun δ' => ∃ m', m' < m ∧ W m' δ', bk := Z.nx }
  | false => Z.nx δ) (Z.ex δ.s)) := Eq.trans rfl rfl
theorem e_tApp (i : Nat) (te : TD) (δ : DE) (Z : DEnds) : tApp i te δ Z = (match δ.sl[i]? with
  | some (.ow xs) => te δ (fun d => szOk (xs.length + 1) (Z.nx (δ.set i (.ow (xs ++ [d]))))) (Z.ex δ.s)
  | _ => False) := Eq.trans rfl rfl
theorem e_tStI (i : Nat) (ti te : TD) (δ : DE) (Z : DEnds) : tStI i ti te δ Z = (te δ (fun d => match δ.sl[i]? with
  | some (.ow xs) => ti δ (fun k => match k with
    | .int j => (match ixN xs.length j with
      | some n => Z.nx (δ.set i (.ow (xs.set n d)))
      | none => False)
    | _ => False) (Z.ex δ.s)
  | _ => False) (Z.ex δ.s)) := Eq.trans rfl rfl
theorem e_yesD (w0 : DE) (P : Bool → Prop) (w2 : Addr → Prop) : yesD  w0 P w2 = (P true) := Eq.trans rfl rfl
theorem e_tLc (tl : TDL) (vs : List Nat) (g : TGD) (c : TDB) (e : TD) (δ : DE) (P : List D → Prop) (EP : Addr → Prop) : tLc tl vs g c e δ P EP = (tl δ (fun xs => szOk xs.length (compD g c e (wipeD δ vs) P xs [])) EP) := Eq.trans rfl rfl
theorem e_tM0 (w0 : DE) (P : List MI → Prop) (w2 : Addr → Prop) : tM0  w0 P w2 = (P []) := Eq.trans rfl rfl
theorem e_tMF (t : TD) (r : TDM) (δ : DE) (P : List MI → Prop) (EP : Addr → Prop) : tMF t r δ P EP = (t δ (fun d => r δ (fun ms => P (.f d :: ms)) EP) EP) := Eq.trans rfl rfl
theorem e_tMN (t : TDL) (r : TDM) (δ : DE) (P : List MI → Prop) (EP : Addr → Prop) : tMN t r δ P EP = (t δ (fun d => r δ (fun ms => P (.n d :: ms)) EP) EP) := Eq.trans rfl rfl
theorem e_tMK (r : TDM) (δ : DE) (P : List MI → Prop) (EP : Addr → Prop) : tMK r δ P EP = (r δ (fun ms => P (.k :: ms)) EP) := Eq.trans rfl rfl
theorem e_tMT (r : TDM) (δ : DE) (P : List MI → Prop) (EP : Addr → Prop) : tMT r δ P EP = (r δ (fun ms => P (.t :: ms)) EP) := Eq.trans rfl rfl
theorem e_tPar2 (i j : Nat) (t : TDM) (δ : DE) (Z : DEnds) : tPar2 i j t δ Z = (t δ (fun ms => match ms with
  | [m, m'] => Z.nx ((δ.set i m.slot).set j m'.slot)
  | _ => False) (Z.ex δ.s)) := Eq.trans rfl rfl
theorem e_tPar3 (i j l : Nat) (t : TDM) (δ : DE) (Z : DEnds) : tPar3 i j l t δ Z = (t δ (fun ms => match ms with
  | [m, m', m2] => Z.nx (((δ.set i m.slot).set j m'.slot).set l m2.slot)
  | _ => False) (Z.ex δ.s)) := Eq.trans rfl rfl
theorem e_tJoin (ts : TD) (t : TDL) (δ : DE) (P : D → Prop) (EP : Addr → Prop) : tJoin ts t δ P EP = (ts δ (fun x => match x with
  | .str a => t δ (fun ds => dJoin a ds P) EP
  | _ => False) EP) := Eq.trans rfl rfl
theorem e_tIsE (a : Addr) (b : Bool) (t : TD) (δ : DE) (P : D → Prop) (EP : Addr → Prop) : tIsE a b t δ P EP = (t δ (fun d => match d with
  | .ref a' => a' = a ∧ P (.bl b)
  | _ => False) EP) := Eq.trans rfl rfl
theorem e_tRef (K : PySem.W.Frag) (WE : Addr) (z : Str) (φ : Addr → Addr → (D → Prop) → Prop) (t : TD) (δ : DE) (P : D → Prop) (EP : Addr → Prop) : tRef K WE z φ t δ P EP = (t δ (fun _ => P (.str z)) (fun c => PySem.W.exmOne K (.ref c) (.ref WE) = some true ∧ ∀ a, φ a c P)) := Eq.trans rfl rfl
theorem e_tSrcS (i : Nat) (te : TDL) (δ : DE) (Z : DEnds) : tSrcS i te δ Z = (srOk i δ = true ∧ te δ (fun ds => match ds with
  | [.int x, .int y] => (0 ≤ x ∧ 0 ≤ y ∧ y < 2147483648) ∧ ∀ a, Z.nx ⟨some a, δ.sl.set i (.sr a)⟩
  | _ => False) (Z.ex δ.s)) := Eq.trans rfl rfl
theorem e_tSrcI (i j : Nat) (δ : DE) (P : D → Prop) (w2 : Addr → Prop) : tSrcI i j δ P w2 = (∃ a, δ.s = some a ∧ δ.sl[i]? = some (.d (.ref a)) ∧ ∀ z : Int, 0 ≤ z → (j = 1 → z < 2147483648) → P (.int z)) := Eq.trans rfl rfl
theorem e_tSrcW (i j : Nat) (te : TD) (δ : DE) (Z : DEnds) : tSrcW i j te δ Z = (te δ (fun d => match d with
  | .int z => (0 ≤ z ∧ (j = 1 → z < 2147483648)) ∧ (∃ a, δ.s = some a ∧ δ.sl[i]? = some (.d (.ref a))) ∧ Z.nx δ
  | _ => False) (Z.ex δ.s)) := Eq.trans rfl rfl
theorem e_tIxO (i : Nat) (tb : TD) (δ : DE) (P : D → Prop) (EP : Addr → Prop) : tIxO i tb δ P EP = (match δ.sl[i]? with
  | some (.ow xs) => tb δ (fun k => match k with
    | .int j => (match L2.atI xs j with
      | some d => P d
      | none => False)
    | _ => False) EP
  | _ => False) := Eq.trans rfl rfl
theorem e_bodyF {N : List Str} {b : TDS} {s : Option Addr} {ds : List D} {P : D → Prop} {EP : Addr → Prop} : bodyF N b s ds P EP = b ⟨s, startD N ds⟩ { nx := fun δ' => δ'.s = s ∧ P .non, rt := fun s' d => s' = s ∧ P d, rn := fun s' ds => s' = s ∧ P (.lst ds), ex := fun s' c => s' = s ∧ EP c } := Eq.trans rfl rfl
theorem e_bodyN {N : List Str} {b : TDS} {s : Option Addr} {ds : List D} {P : List D → Prop} {EP : Addr → Prop} : bodyN N b s ds P EP = b ⟨s, startD N ds⟩ { nx := fun _ => False, rt := fun _ _ => False, rn := fun s' ds => s' = s ∧ P ds, ex := fun s' c => s' = s ∧ EP c } := Eq.trans rfl rfl
theorem ble_and {n : Nat} {p : Prop} : (match Nat.ble n 100000 with | true => p | false => False) = (n ≤ 100000 ∧ p) := by
  by_cases h : n ≤ 100000
  · rw [Nat.ble_eq_true_of_le h]
    exact propext ⟨fun q => ⟨h, q⟩, fun q => q.2⟩
  · cases e : Nat.ble n 100000 with
    | true => exact absurd (Nat.le_of_ble_eq_true e) h
    | false => exact propext ⟨fun q => q.elim, fun q => h q.1⟩
theorem beq_and {n m : Nat} {p : Prop} : (match Nat.beq n m with | true => p | false => False) = (n = m ∧ p) := by
  cases e : Nat.beq n m with
  | true => exact propext ⟨fun q => ⟨Nat.eq_of_beq_eq_true e, q⟩, fun q => q.2⟩
  | false => exact propext ⟨fun q => q.elim, fun q => Nat.ne_of_beq_eq_false e q.1⟩
theorem e_szOk {n : Nat} {p : Prop} : szOk n p = (n ≤ 100000 ∧ p) := ble_and
theorem e_tSize (t : TDL) (δ : DE) (P : List D → Prop) (EP : Addr → Prop) : tSize t δ P EP = t δ (fun ds => ds.length ≤ 100000 ∧ P ds) EP := by
  show t δ (fun ds => match Nat.ble ds.length 100000 with | true => P ds | false => False) EP = _
  congr 1
  funext ds
  exact ble_and
theorem e_tCl (n : Nat) (φ : Fn) (t : TDL) (δ : DE) (P : D → Prop) (EP : Addr → Prop) : tCl n φ t δ P EP = t δ (fun ds => ds.length = n ∧ φ δ.s ds P EP) EP := by
  show t δ (fun ds => match Nat.beq ds.length n with | true => φ δ.s ds P EP | false => False) EP = _
  congr 1
  funext ds
  exact beq_and
theorem e_tClN (n : Nat) (φ : FnL) (t : TDL) (δ : DE) (P : List D → Prop) (EP : Addr → Prop) : tClN n φ t δ P EP = t δ (fun ds => ds.length = n ∧ φ δ.s ds P EP) EP := by
  show t δ (fun ds => match Nat.beq ds.length n with | true => φ δ.s ds P EP | false => False) EP = _
  congr 1
  funext ds
  exact beq_and
end Wn

set_option Elab.async false
set_option linter.all false
set_option maxRecDepth 100000
set_option maxHeartbeats 4000000
namespace Wn
open PySem PySem.Spec PyProof.Rows L2

def errN : List Str := ["InvalidScript", "InvalidRing", "InvalidPeg", "InvalidIndex", "InvalidWord", "InvalidLength", "InvalidSeen", "InvalidNumber", "InvalidText", "AllLaid", "NothingToUndo"]
def Cs (A : Str → Addr) (C : Addr) : Prop := ∃ y ∈ errN, C = A y

def N_is_within : List Str := ["value", "low", "high"]
def t_is_within (A : Str → Addr) : TDS :=
  (tRt (tAndD (tIs .int (tR 0)) (tAndD (tNotD (tIs .bl (tR 0))) (tCh dLe dLe (tR 1) (tR 0) (tR 2)))))
def f_is_within (A : Str → Addr) : Fn := bodyF N_is_within (t_is_within A)

def N_is_step : List Str := ["value"]
def t_is_step (A : Str → Addr) : TDS :=
  (tRt (tAndD (tCl 3 (f_is_within A) (tA1 (tN 0) (tA1 (tNeg (tK (.int (11)))) (tA1 (tK (.int (11))) tA0)))) (t2 (dEq true) (tR 0) (tK (.int 0)))))
def f_is_step (A : Str → Addr) : Fn := bodyF N_is_step (t_is_step A)

def N_is_right_script : List Str := ["value", "step"]
def t_is_right_script (A : Str → Addr) : TDS :=
  (sqD (tIf (tOrB (tNotB (tBl (tIs .tup (tR 0)))) (tNotB (tBl (tCh dLe dLe (tK (.int 1)) (tCD fLen (tA1 (tR 0) tA0)) (tK (.int (5))))))) (tRt (tK (.bl false))) nxD)
  (tRt (tAndD (tCD fAll (tA1 (tNF (tLc (tTupI (tN 0)) [1] (gN 1) yesD (tCl 1 (f_is_step A) (tA1 (tN 1) tA0)))) tA0)) (t2 (dEq true) (tCD fSum (tA1 (tNF (tLc (tTupI (tN 0)) [1] (gN 1) (tBl (tCl 1 (f_is_step A) (tA1 (tN 1) tA0))) (tN 1))) tA0)) (tK (.int 0))))))
def f_is_right_script (A : Str → Addr) : Fn := bodyF N_is_right_script (t_is_right_script A)

def N_need_script : List Str := ["value"]
def t_need_script (A : Str → Addr) : TDS :=
  (tIf (tNotB (tBl (tCl 1 (f_is_right_script A) (tA1 (tN 0) tA0)))) (tRs (A "InvalidScript")) nxD)
def f_need_script (A : Str → Addr) : Fn := bodyF N_need_script (t_need_script A)

def N_need_ring : List Str := ["value"]
def t_need_ring (A : Str → Addr) : TDS :=
  (tIf (tNotB (tBl (tCl 3 (f_is_within A) (tA1 (tN 0) (tA1 (tK (.int (24))) (tA1 (tK (.int (1000000000000000000000000000000))) tA0)))))) (tRs (A "InvalidRing")) nxD)
def f_need_ring (A : Str → Addr) : Fn := bodyF N_need_ring (t_need_ring A)

def N_shared : List Str := ["one", "other"]
def t_shared (A : Str → Addr) : TDS :=
  (sqD (tPar2 0 1 (tMF (tCD fAbs (tA1 (tR 0) tA0)) (tMF (tCD fAbs (tA1 (tR 1) tA0)) tM0)))
  (sqD (tWh (tBl (t2 (dEq true) (tR 1) (tK (.int 0))))
  (tPar2 0 1 (tMF (tN 1) (tMF (t2 dMod (tR 0) (tR 1)) tM0))))
  (tRt (tN 0))))
def f_shared (A : Str → Addr) : Fn := bodyF N_shared (t_shared A)

def N_divisors_of : List Str := ["number", "size", "divisor"]
def t_divisors_of (A : Str → Addr) : TDS :=
  (sqD (tSet 1 (tCD fAbs (tA1 (tR 0) tA0)))
  (tRn (tLc (tRg2 (tA1 (tK (.int 1)) (tA1 (t2 dAdd (tR 1) (tK (.int 1))) tA0))) [2] (gN 2) (tBl (t2 (dEq false) (t2 dMod (tR 1) (tR 2)) (tK (.int 0)))) (tN 2))))
def f_divisors_of (A : Str → Addr) : FnL := bodyN N_divisors_of (t_divisors_of A)

def N_is_script : List Str := ["value"]
def t_is_script (A : Str → Addr) : TDS :=
  (tRt (tCl 1 (f_is_right_script A) (tA1 (tN 0) tA0)))
def f_is_script (A : Str → Addr) : Fn := bodyF N_is_script (t_is_script A)

def N_total : List Str := ["script"]
def t_total (A : Str → Addr) : TDS :=
  (sqD (tEx (tCl 1 (f_need_script A) (tA1 (tN 0) tA0)))
  (tRt (tCD fSum (tA1 (tR 0) tA0))))
def f_total (A : Str → Addr) : Fn := bodyF N_total (t_total A)

def N_divisors : List Str := ["script"]
def t_divisors (A : Str → Addr) : TDS :=
  (sqD (tEx (tCl 1 (f_need_script A) (tA1 (tN 0) tA0)))
  (tRn (tClN 1 (f_divisors_of A) (tA1 (tCD fSum (tA1 (tR 0) tA0)) tA0))))
def f_divisors (A : Str → Addr) : FnL := bodyN N_divisors (t_divisors A)

def N_divisor : List Str := ["script", "n"]
def t_divisor (A : Str → Addr) : TDS :=
  (sqD (tEx (tCl 1 (f_need_script A) (tA1 (tN 0) tA0)))
  (sqD (tEx (tCl 1 (f_need_ring A) (tA1 (tN 1) tA0)))
  (tRt (tCl 2 (f_shared A) (tA1 (tN 1) (tA1 (tCD fSum (tA1 (tR 0) tA0)) tA0))))))
def f_divisor (A : Str → Addr) : Fn := bodyF N_divisor (t_divisor A)

def N__law_source : List Str := ["script", "k", "number", "start"]
def t__law_source (A : Str → Addr) : TDS :=
  (sqD (tSet 2 (tK (.int 0)))
  (sqD (tIf (tBl (t2 dGt (tCD fLen (tA1 (tR 0) tA0)) (tR 1))) (tSet 2 (tCD fInt (tA1 (tIx (tN 0) (tR 1)) tA0))) nxD)
  (sqD (tSet 3 (t2 dMod (t2 dAdd (t2 dAdd (t2 dMul (tR 2) (tK (.int 16807))) (t2 dMul (tK (.int 60919)) (tR 1))) (tK (.int 31))) (tK (.int 2147481173))))
  (sqD (tSet 3 (t2 dAdd (t2 dAdd (t2 dMod (t2 dMul (tR 3) (tR 3)) (tK (.int 2147481151))) (t2 dMul (tK (.int 2)) (tR 1))) (tK (.int 5))))
  (tRn (tSize (tA1 (tIfE (tBl (t2 dGe (tR 2) (t2 dPow (tK (.int 10)) (tK (.int 18))))) (tN 2) (tK (.int 0))) (tA1 (tN 3) tA0))))))))
def f__law_source (A : Str → Addr) : FnL := bodyN N__law_source (t__law_source A)

def N__law_pick : List Str := ["source", "many", "found"]
def t__law_pick (A : Str → Addr) : TDS :=
  (sqD (tIf (tBl (t2 dGt (tSrcI 0 0) (tK (.int 0)))) (sqD (tSet 2 (t2 dMod (tCD fInt (tA1 (tSrcI 0 0) tA0)) (tR 1)))
  (sqD (tSrcW 0 0 (t2 dFdiv (tCD fInt (tA1 (tSrcI 0 0) tA0)) (tR 1)))
  (tRt (tN 2)))) nxD)
  (sqD (tSrcW 0 1 (t2 dMod (tCD fInt (tA1 (t2 dAdd (t2 dMul (tSrcI 0 1) (tK (.int 44497))) (tK (.int 9973))) tA0)) (tK (.int 2147483647))))
  (tRt (t2 dMod (t2 dFdiv (t2 dMod (tCD fInt (tA1 (t2 dMul (tSrcI 0 1) (tSrcI 0 1)) tA0)) (tK (.int 2147483399))) (tK (.int 11))) (tR 1)))))
def f__law_pick (A : Str → Addr) : Fn := bodyF N__law_pick (t__law_pick A)

def N__law_chosen : List Str := ["source", "things"]
def t__law_chosen (A : Str → Addr) : TDS :=
  (tRt (tIx (tN 1) (tCl 2 (f__law_pick A) (tA1 (tN 0) (tA1 (tCD fLen (tA1 (tR 1) tA0)) tA0)))))
def f__law_chosen (A : Str → Addr) : Fn := bodyF N__law_chosen (t__law_chosen A)

def N__law_is_bool : List Str := ["told", "due"]
def t__law_is_bool (A : Str → Addr) : TDS :=
  (tRt (tAndD (tIs .bl (tR 0)) (t2 (dEq false) (tR 0) (tR 1))))
def f__law_is_bool (A : Str → Addr) : Fn := bodyF N__law_is_bool (t__law_is_bool A)

def N__law_wide : List Str := ["value", "low", "high"]
def t__law_wide (A : Str → Addr) : TDS :=
  (tRt (tAndD (tIs .tup (tR 0)) (tCh dLe dLe (tR 1) (tCD fLen (tA1 (tR 0) tA0)) (tR 2))))
def f__law_wide (A : Str → Addr) : Fn := bodyF N__law_wide (t__law_wide A)

def N__law_any_value : List Str := ["source", "deep", "simple_so", "way", "parts", "turn"]
def t__law_any_value (A : Str → Addr) (φ : Fn) : TDS :=
  (sqD (tSet 2 (tNF (tSize (tA1 (tK .non) (tA1 (tK (.bl true)) (tA1 (tK (.bl false)) (tA1 (tK (.int 0)) (tA1 (tK (.int 1)) (tA1 (tK (.int 2)) (tA1 (tNeg (tK (.int 3))) (tA1 (tK (.int 11)) (tA1 (tK (.str "")) (tA1 (tK (.str "5 -2")) (tA1 (tTupD tA0) (tA1 (tNF (tSize tA0)) (tA1 (tTupD (tA1 (tK (.int 5)) tA0)) (tA1 (tTupD (tA1 (tK (.int 5)) (tA1 (tNeg (tK (.int 2))) tA0))) tA0)))))))))))))))))
  (sqD (tSet 3 (tCl 2 (f__law_pick A) (tA1 (tN 0) (tA1 (tK (.int 8)) tA0))))
  (sqD (tIf (tOrB (tBl (t2 dLt (tR 1) (tK (.int 1)))) (tBl (t2 dLt (tR 3) (tK (.int 5))))) (tRt (tCl 2 (f__law_chosen A) (tA1 (tN 0) (tA1 (tN 2) tA0)))) nxD)
  (sqD (tSet 4 (tNF (tLc (tRg1 (tA1 (tCl 2 (f__law_pick A) (tA1 (tN 0) (tA1 (tK (.int 5)) tA0))) tA0)) [5] (gN 5) yesD (tCl 2 φ (tA1 (tN 0) (tA1 (t2 dSub (tR 1) (tK (.int 1))) tA0))))))
  (tRt (tIfE (tBl (t2 (dEq false) (tR 3) (tK (.int 5)))) (tN 4) (tTupL (tItl (tN 4)))))))))
def f__law_any_value (A : Str → Addr) (φ : Fn) : Fn := bodyF N__law_any_value (t__law_any_value A φ)

def r__law_any_value (A : Str → Addr) : Nat → Fn
  | 0 => fun _ _ _ _ => False
  | n + 1 => f__law_any_value A (r__law_any_value A n)

def b10__law_variant (A : Str → Addr) (φ : Fn) : TDS :=
  (tRt (tTupL (tOwn 3)))
def b9__law_variant (A : Str → Addr) (φ : Fn) : TDS :=
  (sqD (tIf (tBl (t2 dLt (tR 5) (tK (.int 6)))) (tStI 3 (tR 4) (tCl 2 (r__law_any_value A 4) (tA1 (tN 0) (tA1 (tK (.int 2)) tA0)))) (sqD (tSet 7 (tNF (tSize (tA1 (tK .non) (tA1 (tK (.bl true)) (tA1 (tK (.bl false)) (tA1 (tK (.int 0)) (tA1 (tK (.int 1)) (tA1 (tNeg (tK (.int 1))) (tA1 (tK (.int 11)) (tA1 (tK (.int 12)) (tA1 (tNeg (tK (.int 11))) (tA1 (tNeg (tK (.int 12))) (tA1 (tK (.str "")) (tA1 (tTupD tA0) (tA1 (tTupD (tA1 (tK (.int 5)) tA0)) (tA1 (tNF (tSize (tA1 (tK (.int 5)) tA0))) tA0)))))))))))))))))
  (tStI 3 (tR 4) (tCl 2 (f__law_chosen A) (tA1 (tN 0) (tA1 (tN 7) tA0))))))
  (b10__law_variant A φ))
def b8__law_variant (A : Str → Addr) (φ : Fn) : TDS :=
  (sqD (tIf (tBl (t2 (dEq false) (tR 5) (tK (.int 3)))) (tRo 3) nxD)
  (b9__law_variant A φ))
def b7__law_variant (A : Str → Addr) (φ : Fn) : TDS :=
  (sqD (tIf (tBl (t2 (dEq false) (tR 5) (tK (.int 2)))) (tRt (tTupL (tCatL (tCatL (tSlL (tOwn 3) tO0 (tO1 (tR 4))) (tRev (tSlL (tOwn 3) (tO1 (tR 4)) (tO1 (t2 dAdd (tR 4) (tK (.int 2))))))) (tSlL (tOwn 3) (tO1 (t2 dAdd (tR 4) (tK (.int 2)))) tO0)))) nxD)
  (b8__law_variant A φ))
def b6__law_variant (A : Str → Addr) (φ : Fn) : TDS :=
  (sqD (tIf (tBl (t2 (dEq false) (tR 5) (tK (.int 1)))) (tRt (tTupL (tCatL (tSlL (tOwn 3) tO0 (tO1 (t2 dAdd (tR 4) (tK (.int 1))))) (tSlL (tOwn 3) (tO1 (tR 4)) tO0)))) nxD)
  (b7__law_variant A φ))
def b5__law_variant (A : Str → Addr) (φ : Fn) : TDS :=
  (sqD (tIf (tBl (t2 (dEq false) (tR 5) (tK (.int 0)))) (tRt (tTupL (tCatL (tSlL (tOwn 3) tO0 (tO1 (tR 4))) (tSlL (tOwn 3) (tO1 (t2 dAdd (tR 4) (tK (.int 1)))) tO0)))) nxD)
  (b6__law_variant A φ))
def b4__law_variant (A : Str → Addr) (φ : Fn) : TDS :=
  (sqD (tIf (tAndB (tBl (tIs .tup (tR 6))) (tAndB (tBl (t2 dGt (tR 2) (tK (.int 0)))) (tBl (t2 dGt (tR 5) (tK (.int 2)))))) (tRt (tCatT (tCatT (tTupL (tSlL (tOwn 3) tO0 (tO1 (tR 4)))) (tTupD (tA1 (tCl 3 φ (tA1 (tN 0) (tA1 (tN 6) (tA1 (t2 dSub (tR 2) (tK (.int 1))) tA0)))) tA0))) (tTupL (tSlL (tOwn 3) (tO1 (t2 dAdd (tR 4) (tK (.int 1)))) tO0)))) nxD)
  (b5__law_variant A φ))
def b3__law_variant (A : Str → Addr) (φ : Fn) : TDS :=
  (sqD (tSet 6 (tIxO 3 (tR 4)))
  (b4__law_variant A φ))
def b2__law_variant (A : Str → Addr) (φ : Fn) : TDS :=
  (sqD (tPar2 4 5 (tMF (tCl 2 (f__law_pick A) (tA1 (tN 0) (tA1 (tCD fLen (tA1 (tR 3) tA0)) tA0))) (tMF (tCl 2 (f__law_pick A) (tA1 (tN 0) (tA1 (tK (.int 9)) tA0))) tM0)))
  (b3__law_variant A φ))
def b1__law_variant (A : Str → Addr) (φ : Fn) : TDS :=
  (sqD (tIf (tBl (t2 (dEq false) (tR 3) (tNF (tSize tA0)))) (tRt (tTupD (tA1 (tCl 2 (r__law_any_value A 4) (tA1 (tN 0) (tA1 (tK (.int 1)) tA0))) tA0))) nxD)
  (b2__law_variant A φ))
def b0__law_variant (A : Str → Addr) (φ : Fn) : TDS :=
  (sqD (tSetN 3 (tTupI (tN 1)))
  (b1__law_variant A φ))
def full__law_variant (A : Str → Addr) (φ : Fn) : TDS :=
  (sqD (tSetN 3 (tTupI (tN 1)))
  (sqD (tIf (tBl (t2 (dEq false) (tR 3) (tNF (tSize tA0)))) (tRt (tTupD (tA1 (tCl 2 (r__law_any_value A 4) (tA1 (tN 0) (tA1 (tK (.int 1)) tA0))) tA0))) nxD)
  (sqD (tPar2 4 5 (tMF (tCl 2 (f__law_pick A) (tA1 (tN 0) (tA1 (tCD fLen (tA1 (tR 3) tA0)) tA0))) (tMF (tCl 2 (f__law_pick A) (tA1 (tN 0) (tA1 (tK (.int 9)) tA0))) tM0)))
  (sqD (tSet 6 (tIxO 3 (tR 4)))
  (sqD (tIf (tAndB (tBl (tIs .tup (tR 6))) (tAndB (tBl (t2 dGt (tR 2) (tK (.int 0)))) (tBl (t2 dGt (tR 5) (tK (.int 2)))))) (tRt (tCatT (tCatT (tTupL (tSlL (tOwn 3) tO0 (tO1 (tR 4)))) (tTupD (tA1 (tCl 3 φ (tA1 (tN 0) (tA1 (tN 6) (tA1 (t2 dSub (tR 2) (tK (.int 1))) tA0)))) tA0))) (tTupL (tSlL (tOwn 3) (tO1 (t2 dAdd (tR 4) (tK (.int 1)))) tO0)))) nxD)
  (sqD (tIf (tBl (t2 (dEq false) (tR 5) (tK (.int 0)))) (tRt (tTupL (tCatL (tSlL (tOwn 3) tO0 (tO1 (tR 4))) (tSlL (tOwn 3) (tO1 (t2 dAdd (tR 4) (tK (.int 1)))) tO0)))) nxD)
  (sqD (tIf (tBl (t2 (dEq false) (tR 5) (tK (.int 1)))) (tRt (tTupL (tCatL (tSlL (tOwn 3) tO0 (tO1 (t2 dAdd (tR 4) (tK (.int 1))))) (tSlL (tOwn 3) (tO1 (tR 4)) tO0)))) nxD)
  (sqD (tIf (tBl (t2 (dEq false) (tR 5) (tK (.int 2)))) (tRt (tTupL (tCatL (tCatL (tSlL (tOwn 3) tO0 (tO1 (tR 4))) (tRev (tSlL (tOwn 3) (tO1 (tR 4)) (tO1 (t2 dAdd (tR 4) (tK (.int 2))))))) (tSlL (tOwn 3) (tO1 (t2 dAdd (tR 4) (tK (.int 2)))) tO0)))) nxD)
  (sqD (tIf (tBl (t2 (dEq false) (tR 5) (tK (.int 3)))) (tRo 3) nxD)
  (sqD (tIf (tBl (t2 dLt (tR 5) (tK (.int 6)))) (tStI 3 (tR 4) (tCl 2 (r__law_any_value A 4) (tA1 (tN 0) (tA1 (tK (.int 2)) tA0)))) (sqD (tSet 7 (tNF (tSize (tA1 (tK .non) (tA1 (tK (.bl true)) (tA1 (tK (.bl false)) (tA1 (tK (.int 0)) (tA1 (tK (.int 1)) (tA1 (tNeg (tK (.int 1))) (tA1 (tK (.int 11)) (tA1 (tK (.int 12)) (tA1 (tNeg (tK (.int 11))) (tA1 (tNeg (tK (.int 12))) (tA1 (tK (.str "")) (tA1 (tTupD tA0) (tA1 (tTupD (tA1 (tK (.int 5)) tA0)) (tA1 (tNF (tSize (tA1 (tK (.int 5)) tA0))) tA0)))))))))))))))))
  (tStI 3 (tR 4) (tCl 2 (f__law_chosen A) (tA1 (tN 0) (tA1 (tN 7) tA0))))))
  (tRt (tTupL (tOwn 3)))))))))))))
def N__law_variant : List Str := ["source", "value", "deep", "parts", "spot", "way", "inner", "near"]
def t__law_variant (A : Str → Addr) (φ : Fn) : TDS :=
  (b0__law_variant A φ)
def f__law_variant (A : Str → Addr) (φ : Fn) : Fn := bodyF N__law_variant (t__law_variant A φ)

def r__law_variant (A : Str → Addr) : Nat → Fn
  | 0 => fun _ _ _ _ => False
  | n + 1 => f__law_variant A (r__law_variant A n)

def N__law_whole : List Str := ["value", "low", "high"]
def t__law_whole (A : Str → Addr) : TDS :=
  (tRt (tAndD (tIs .int (tR 0)) (tAndD (tNotD (tIs .bl (tR 0))) (tCh dLe dLe (tR 1) (tR 0) (tR 2)))))
def f__law_whole (A : Str → Addr) : Fn := bodyF N__law_whole (t__law_whole A)

def N__law_error : List Str := ["e", "some", "word_so", "good"]
def t__law_error (A : Str → Addr) (a C : Addr) : TDS :=
  (sqD (tSetN 1 (tSize (tA1 (tTupD (tA1 (tK (.str "script")) (tA1 (tIsE a (decide (C = A "InvalidScript")) (tR 0)) tA0))) (tA1 (tTupD (tA1 (tK (.str "ring")) (tA1 (tIsE a (decide (C = A "InvalidRing")) (tR 0)) tA0))) tA0))))
  (sqD (tSetN 1 (tCatL (tOwn 1) (tSize (tA1 (tTupD (tA1 (tK (.str "peg")) (tA1 (tIsE a (decide (C = A "InvalidPeg")) (tR 0)) tA0))) (tA1 (tTupD (tA1 (tK (.str "index")) (tA1 (tIsE a (decide (C = A "InvalidIndex")) (tR 0)) tA0))) tA0)))))
  (sqD (tSetN 1 (tCatL (tOwn 1) (tSize (tA1 (tTupD (tA1 (tK (.str "word")) (tA1 (tIsE a (decide (C = A "InvalidWord")) (tR 0)) tA0))) (tA1 (tTupD (tA1 (tK (.str "length")) (tA1 (tIsE a (decide (C = A "InvalidLength")) (tR 0)) tA0))) tA0)))))
  (sqD (tSetN 1 (tCatL (tOwn 1) (tSize (tA1 (tTupD (tA1 (tK (.str "seen")) (tA1 (tIsE a (decide (C = A "InvalidSeen")) (tR 0)) tA0))) (tA1 (tTupD (tA1 (tK (.str "number")) (tA1 (tIsE a (decide (C = A "InvalidNumber")) (tR 0)) tA0))) tA0)))))
  (sqD (tSetN 1 (tCatL (tOwn 1) (tSize (tA1 (tTupD (tA1 (tK (.str "text")) (tA1 (tIsE a (decide (C = A "InvalidText")) (tR 0)) tA0))) (tA1 (tTupD (tA1 (tK (.str "laid")) (tA1 (tIsE a (decide (C = A "AllLaid")) (tR 0)) tA0))) tA0)))))
  (sqD (tApp 1 (tTupD (tA1 (tK (.str "undo")) (tA1 (tIsE a (decide (C = A "NothingToUndo")) (tR 0)) tA0))))
  (tRt (tJoin (tK (.str " ")) (tLc (tOwn 1) [2, 3] (gT [2, 3]) (tBl (tR 3)) (tN 2))))))))))
def f__law_error (A : Str → Addr) : Addr → Addr → (D → Prop) → Prop := fun a C R => Cs A C ∧ bodyE N__law_error (t__law_error A) a C R

def N__law_by_one : List Str := ["call", "one"]
def t__law_by_one (K : PySem.W.Frag) (A : Str → Addr) (Φ : Addr → Nat → Option Fn) : TDS :=
  (tRt (tRef K (A "WindError") "" (f__law_error A) (tClV 0 Φ 1 (tA1 (tN 1) tA0))))
def f__law_by_one (K : PySem.W.Frag) (A : Str → Addr) (Φ : Addr → Nat → Option Fn) : Fn := bodyF N__law_by_one (t__law_by_one K A Φ)

def N__law_by_two : List Str := ["call", "one", "other"]
def t__law_by_two (K : PySem.W.Frag) (A : Str → Addr) (Φ : Addr → Nat → Option Fn) : TDS :=
  (tRt (tRef K (A "WindError") "" (f__law_error A) (tClV 0 Φ 2 (tA1 (tN 1) (tA1 (tN 2) tA0)))))
def f__law_by_two (K : PySem.W.Frag) (A : Str → Addr) (Φ : Addr → Nat → Option Fn) : Fn := bodyF N__law_by_two (t__law_by_two K A Φ)

def N__law_drawn_steps : List Str := ["source", "most", "found", "turn", "size"]
def t__law_drawn_steps (A : Str → Addr) : TDS :=
  (sqD (tSet 2 (tTupD tA0))
  (sqD (tForL (tRg1 (tA1 (t2 dAdd (tK (.int 1)) (tCl 2 (f__law_pick A) (tA1 (tN 0) (tA1 (tN 1) tA0)))) tA0)) (gN 3)
  (sqD (tSet 4 (t2 dAdd (tK (.int 1)) (tCl 2 (f__law_pick A) (tA1 (tN 0) (tA1 (tCl 2 (f__law_chosen A) (tA1 (tN 0) (tA1 (tNF (tSize (tA1 (tK (.int 3)) (tA1 (tK (.int 6)) (tA1 (tK (.int 11)) tA0))))) tA0))) tA0)))))
  (tSet 2 (tCatT (tN 2) (tTupD (tA1 (t2 dMul (tR 4) (tCl 2 (f__law_chosen A) (tA1 (tN 0) (tA1 (tNF (tSize (tA1 (tK (.int 1)) (tA1 (tK (.int 1)) (tA1 (tNeg (tK (.int 1))) tA0))))) tA0)))) tA0))))))
  (tRt (tIfE (tBl (t2 (dEq true) (tCD fSum (tA1 (tR 2) tA0)) (tK (.int 0)))) (tN 2) (tSlT (tN 2) tO0 (tO1 (tK (.int 1))))))))
def f__law_drawn_steps (A : Str → Addr) : Fn := bodyF N__law_drawn_steps (t__law_drawn_steps A)

def N__law_good : List Str := ["value", "one"]
def t__law_good (A : Str → Addr) : TDS :=
  (sqD (tIf (tOrB (tNotB (tBl (tCl 3 (f__law_wide A) (tA1 (tN 0) (tA1 (tK (.int 1)) (tA1 (tK (.int 5)) tA0)))))) (tBl (t2 (dEq true) (tNF (tLc (tTupI (tN 0)) [1] (gN 1) (tNotB (tBl (tCl 3 (f__law_whole A) (tA1 (tN 1) (tA1 (tNeg (tK (.int 11))) (tA1 (tK (.int 11)) tA0)))))) (tN 1))) (tNF (tSize tA0))))) (tRt (tK (.bl false))) nxD)
  (tRt (tAndD (t2 (dIn true) (tK (.int 0)) (tR 0)) (t2 (dEq true) (tCD fSum (tA1 (tR 0) tA0)) (tK (.int 0))))))
def f__law_good (A : Str → Addr) : Fn := bodyF N__law_good (t__law_good A)

def p3_2_law (A : Str → Addr) (K : PySem.W.Frag) (Φ : Addr → Nat → Option Fn) : TDS :=
  (tIf (tAndB (tBl (tIs .tup (tR 6))) (tBl (t2 (dEq false) (tCl 2 (f__law_pick A) (tA1 (tN 2) (tA1 (tK (.int 3)) tA0))) (tK (.int 0))))) (tApp 4 (tCl 3 (r__law_variant A 5) (tA1 (tN 2) (tA1 (tN 6) (tA1 (tK (.int 4)) tA0))))) nxD)
def p3_1_law (A : Str → Addr) (K : PySem.W.Frag) (Φ : Addr → Nat → Option Fn) : TDS :=
  (sqD (tApp 4 (tN 6))
  (p3_2_law A K Φ))
def p3_0_law (A : Str → Addr) (K : PySem.W.Frag) (Φ : Addr → Nat → Option Fn) : TDS :=
  (sqD (tSet 6 (tCl 3 (r__law_variant A 5) (tA1 (tN 2) (tA1 (tN 3) (tA1 (tK (.int 4)) tA0)))))
  (p3_1_law A K Φ))
def p4_0_law (A : Str → Addr) (K : PySem.W.Frag) (Φ : Addr → Nat → Option Fn) : TDS :=
  (tIf (tNotB (tBl (tCl 2 (f__law_is_bool A) (tA1 (tCl 1 (f_is_script A) (tA1 (tN 7) tA0)) (tA1 (tCl 1 (f__law_good A) (tA1 (tN 7) tA0)) tA0))))) (tRt (tK (.bl false))) nxD)
def p5_2_law (A : Str → Addr) (K : PySem.W.Frag) (Φ : Addr → Nat → Option Fn) : TDS :=
  (tApp 12 (tK (.int 0)))
def p5_1_law (A : Str → Addr) (K : PySem.W.Frag) (Φ : Addr → Nat → Option Fn) : TDS :=
  (sqD (tIf (tOrB (tBl (t2 (dEq true) (tCl 1 (f_total A) (tA1 (tN 3) tA0)) (tCD fSum (tA1 (tR 3) tA0)))) (tOrB (tNotB (tBl (tIs .lst (tR 12)))) (tBl (t2 (dEq true) (tR 12) (tR 9))))) (tRt (tK (.bl false))) nxD)
  (p5_2_law A K Φ))
def p5_0_law (A : Str → Addr) (K : PySem.W.Frag) (Φ : Addr → Nat → Option Fn) : TDS :=
  (sqD (tSetN 12 (tClN 1 (f_divisors A) (tA1 (tN 3) tA0)))
  (p5_1_law A K Φ))
def p6_0_law (A : Str → Addr) (K : PySem.W.Frag) (Φ : Addr → Nat → Option Fn) : TDS :=
  (tIf (tBl (t2 (dEq true) (tCl 2 (f_divisor A) (tA1 (tN 3) (tA1 (tN 13) tA0))) (tCD fMax (tA1 (tNF (tLc (tItl (tN 9)) [10] (gN 10) (tBl (t2 (dEq false) (t2 dMod (tR 13) (tR 10)) (tK (.int 0)))) (tN 10))) tA0)))) (tRt (tK (.bl false))) nxD)
def p7_1_law (A : Str → Addr) (K : PySem.W.Frag) (Φ : Addr → Nat → Option Fn) : TDS :=
  (tIf (tBl (t2 (dEq true) (tR 14) (tNF (tRepL (tSize (tA1 (tK (.str "script")) tA0)) (tK (.int 3)))))) (tRt (tK (.bl false))) nxD)
def p7_0_law (A : Str → Addr) (K : PySem.W.Frag) (Φ : Addr → Nat → Option Fn) : TDS :=
  (sqD (tSet 14 (tNF (tSize (tA1 (tCl 2 (f__law_by_one K A Φ) (tA1 (tK (.ref (A "total"))) (tA1 (tN 6) tA0))) (tA1 (tCl 2 (f__law_by_one K A Φ) (tA1 (tK (.ref (A "divisors"))) (tA1 (tN 6) tA0))) (tA1 (tCl 3 (f__law_by_two K A Φ) (tA1 (tK (.ref (A "divisor"))) (tA1 (tN 6) (tA1 (tK .non) tA0)))) tA0))))))
  (p7_1_law A K Φ))
def p8_0_law (A : Str → Addr) (K : PySem.W.Frag) (Φ : Addr → Nat → Option Fn) : TDS :=
  (tIf (tBl (t2 (dEq true) (tCl 3 (f__law_by_two K A Φ) (tA1 (tK (.ref (A "divisor"))) (tA1 (tN 3) (tA1 (tN 6) tA0)))) (tK (.str "ring")))) (tRt (tK (.bl false))) nxD)
def p2_10_law (A : Str → Addr) (K : PySem.W.Frag) (Φ : Addr → Nat → Option Fn) : TDS :=
  (tForL (tItl (tNF (tSize (tA1 (tK .non) (tA1 (tK (.int 23)) (tA1 (tK (.bl true)) (tA1 (t2 dAdd (t2 dPow (tK (.int 10)) (tK (.int 30))) (tK (.int 1))) (tA1 (tK (.str "24")) tA0)))))))) (gN 6)
  (p8_0_law A K Φ))
def p2_9_law (A : Str → Addr) (K : PySem.W.Frag) (Φ : Addr → Nat → Option Fn) : TDS :=
  (sqD (tForL (tItl (tNF (tSize (tA1 (tK .non) (tA1 (tTupD tA0) (tA1 (tNF (tTupI (tN 3))) (tA1 (tTupD (tA1 (tK (.int 0)) tA0)) (tA1 (tTupD (tA1 (tK (.int 1)) (tA1 (tNeg (tK (.int 1))) tA0))) (tA1 (tTupD (tA1 (tK (.int 12)) tA0)) tA0))))))))) (gN 6)
  (p7_0_law A K Φ))
  (p2_10_law A K Φ))
def p2_8_law (A : Str → Addr) (K : PySem.W.Frag) (Φ : Addr → Nat → Option Fn) : TDS :=
  (sqD (tForL (tItl (tNF (tSize (tA1 (tK (.int 24)) (tA1 (t2 dAdd (tK (.int 24)) (tCl 2 (f__law_pick A) (tA1 (tN 2) (tA1 (tK (.int 100)) tA0)))) (tA1 (t2 dMul (tR 8) (tK (.int 24))) (tA1 (t2 dPow (tK (.int 10)) (tK (.int 30))) (tA1 (t2 dAdd (t2 dPow (tK (.int 10)) (tK (.int 29))) (tCl 2 (f__law_pick A) (tA1 (tN 2) (tA1 (t2 dPow (tK (.int 10)) (tK (.int 9))) tA0)))) tA0)))))))) (gN 13)
  (p6_0_law A K Φ))
  (p2_9_law A K Φ))
def p2_7_law (A : Str → Addr) (K : PySem.W.Frag) (Φ : Addr → Nat → Option Fn) : TDS :=
  (sqD (tForL (tRg1 (tA1 (tK (.int 2)) tA0)) (gN 11)
  (p5_0_law A K Φ))
  (p2_8_law A K Φ))
def p2_6_law (A : Str → Addr) (K : PySem.W.Frag) (Φ : Addr → Nat → Option Fn) : TDS :=
  (sqD (tSet 9 (tNF (tLc (tRg2 (tA1 (tK (.int 1)) (tA1 (t2 dAdd (tR 8) (tK (.int 1))) tA0))) [10] (gN 10) (tBl (t2 (dEq false) (t2 dMod (tR 8) (tR 10)) (tK (.int 0)))) (tN 10))))
  (p2_7_law A K Φ))
def p2_5_law (A : Str → Addr) (K : PySem.W.Frag) (Φ : Addr → Nat → Option Fn) : TDS :=
  (sqD (tSet 8 (tCD fAbs (tA1 (tCD fSum (tA1 (tR 3) tA0)) tA0)))
  (p2_6_law A K Φ))
def p2_4_law (A : Str → Addr) (K : PySem.W.Frag) (Φ : Addr → Nat → Option Fn) : TDS :=
  (sqD (tForL (tItl (tNF (tCatL (tOwn 4) (tSize (tA1 (tCl 2 (r__law_any_value A 4) (tA1 (tN 2) (tA1 (tK (.int 3)) tA0))) tA0))))) (gN 7)
  (p4_0_law A K Φ))
  (p2_5_law A K Φ))
def p2_3_law (A : Str → Addr) (K : PySem.W.Frag) (Φ : Addr → Nat → Option Fn) : TDS :=
  (sqD (tForL (tRg1 (tA1 (tK (.int 30)) tA0)) (gN 5)
  (p3_0_law A K Φ))
  (p2_4_law A K Φ))
def p2_2_law (A : Str → Addr) (K : PySem.W.Frag) (Φ : Addr → Nat → Option Fn) : TDS :=
  (sqD (tSetN 4 (tSize (tA1 (tN 3) (tA1 (tNF (tTupI (tN 3))) (tA1 (tCatT (tN 3) (tN 3)) (tA1 (tSlT (tN 3) tO0 (tO1 (tK (.int 0)))) (tA1 (tTupD (tA1 (tK (.int 12)) tA0)) (tA1 (tTupD (tA1 (tK (.int 3)) (tA1 (tNeg (tK (.int 3))) tA0))) (tA1 (tCatT (tN 3) (tTupD (tA1 (tNeg (tCD fSum (tA1 (tR 3) tA0))) tA0))) (tA1 (tK (.int 5)) tA0))))))))))
  (p2_3_law A K Φ))
def p2_1_law (A : Str → Addr) (K : PySem.W.Frag) (Φ : Addr → Nat → Option Fn) : TDS :=
  (sqD (tSet 3 (tCl 2 (f__law_drawn_steps A) (tA1 (tN 2) (tA1 (tK (.int 5)) tA0))))
  (p2_2_law A K Φ))
def p2_0_law (A : Str → Addr) (K : PySem.W.Frag) (Φ : Addr → Nat → Option Fn) : TDS :=
  (sqD (tSrcS 2 (tClN 2 (f__law_source A) (tA1 (tN 0) (tA1 (tN 1) tA0))))
  (p2_1_law A K Φ))
def p1_2_law (A : Str → Addr) (K : PySem.W.Frag) (Φ : Addr → Nat → Option Fn) : TDS :=
  (tRt (t2 (dEq false) (tNF (tLc (tItl (tN 15)) [7, 9] (gT [7, 9]) (tBl (t2 (dEq true) (tCl 1 (f_is_script A) (tA1 (tN 7) tA0)) (tR 9))) (tN 7))) (tNF (tSize tA0))))
def p1_1_law (A : Str → Addr) (K : PySem.W.Frag) (Φ : Addr → Nat → Option Fn) : TDS :=
  (sqD (tSet 15 (tNF (tSize (tA1 (tTupD (tA1 (tRepT (tTupD (tA1 (tK (.int 11)) tA0)) (tK (.int 5))) (tA1 (tK (.bl true)) tA0))) (tA1 (tTupD (tA1 (tRepT (tTupD (tA1 (tK (.int 1)) tA0)) (tK (.int 6))) (tA1 (tK (.bl false)) tA0))) (tA1 (tTupD (tA1 (tTupD (tA1 (tK (.bl true)) tA0)) (tA1 (tK (.bl false)) tA0))) (tA1 (tTupD (tA1 (tTupD (tA1 (tK (.int 0)) (tA1 (tK (.int 1)) tA0))) (tA1 (tK (.bl false)) tA0))) (tA1 (tTupD (tA1 (tTupD (tA1 (tNeg (tK (.int 11))) tA0)) (tA1 (tK (.bl true)) tA0))) (tA1 (tTupD (tA1 (tTupD (tA1 (tK (.int 5)) (tA1 (tNeg (tK (.int 5))) tA0))) (tA1 (tK (.bl false)) tA0))) tA0)))))))))
  (p1_2_law A K Φ))
def p1_0_law (A : Str → Addr) (K : PySem.W.Frag) (Φ : Addr → Nat → Option Fn) : TDS :=
  (sqD (tForL (tRg1 (tA1 (tCD fMax (tA1 (tK (.int 6)) (tA1 (tCD fMin (tA1 (tK (.int 20)) (tA1 (tCD fLen (tA1 (tR 0) tA0)) tA0))) tA0))) tA0)) (gN 1)
  (p2_0_law A K Φ))
  (p1_1_law A K Φ))
def full_law (A : Str → Addr) (K : PySem.W.Frag) (Φ : Addr → Nat → Option Fn) : TDS :=
  (sqD (tForL (tRg1 (tA1 (tCD fMax (tA1 (tK (.int 6)) (tA1 (tCD fMin (tA1 (tK (.int 20)) (tA1 (tCD fLen (tA1 (tR 0) tA0)) tA0))) tA0))) tA0)) (gN 1)
  (sqD (tSrcS 2 (tClN 2 (f__law_source A) (tA1 (tN 0) (tA1 (tN 1) tA0))))
  (sqD (tSet 3 (tCl 2 (f__law_drawn_steps A) (tA1 (tN 2) (tA1 (tK (.int 5)) tA0))))
  (sqD (tSetN 4 (tSize (tA1 (tN 3) (tA1 (tNF (tTupI (tN 3))) (tA1 (tCatT (tN 3) (tN 3)) (tA1 (tSlT (tN 3) tO0 (tO1 (tK (.int 0)))) (tA1 (tTupD (tA1 (tK (.int 12)) tA0)) (tA1 (tTupD (tA1 (tK (.int 3)) (tA1 (tNeg (tK (.int 3))) tA0))) (tA1 (tCatT (tN 3) (tTupD (tA1 (tNeg (tCD fSum (tA1 (tR 3) tA0))) tA0))) (tA1 (tK (.int 5)) tA0))))))))))
  (sqD (tForL (tRg1 (tA1 (tK (.int 30)) tA0)) (gN 5)
  (sqD (tSet 6 (tCl 3 (r__law_variant A 5) (tA1 (tN 2) (tA1 (tN 3) (tA1 (tK (.int 4)) tA0)))))
  (sqD (tApp 4 (tN 6))
  (tIf (tAndB (tBl (tIs .tup (tR 6))) (tBl (t2 (dEq false) (tCl 2 (f__law_pick A) (tA1 (tN 2) (tA1 (tK (.int 3)) tA0))) (tK (.int 0))))) (tApp 4 (tCl 3 (r__law_variant A 5) (tA1 (tN 2) (tA1 (tN 6) (tA1 (tK (.int 4)) tA0))))) nxD))))
  (sqD (tForL (tItl (tNF (tCatL (tOwn 4) (tSize (tA1 (tCl 2 (r__law_any_value A 4) (tA1 (tN 2) (tA1 (tK (.int 3)) tA0))) tA0))))) (gN 7)
  (tIf (tNotB (tBl (tCl 2 (f__law_is_bool A) (tA1 (tCl 1 (f_is_script A) (tA1 (tN 7) tA0)) (tA1 (tCl 1 (f__law_good A) (tA1 (tN 7) tA0)) tA0))))) (tRt (tK (.bl false))) nxD))
  (sqD (tSet 8 (tCD fAbs (tA1 (tCD fSum (tA1 (tR 3) tA0)) tA0)))
  (sqD (tSet 9 (tNF (tLc (tRg2 (tA1 (tK (.int 1)) (tA1 (t2 dAdd (tR 8) (tK (.int 1))) tA0))) [10] (gN 10) (tBl (t2 (dEq false) (t2 dMod (tR 8) (tR 10)) (tK (.int 0)))) (tN 10))))
  (sqD (tForL (tRg1 (tA1 (tK (.int 2)) tA0)) (gN 11)
  (sqD (tSetN 12 (tClN 1 (f_divisors A) (tA1 (tN 3) tA0)))
  (sqD (tIf (tOrB (tBl (t2 (dEq true) (tCl 1 (f_total A) (tA1 (tN 3) tA0)) (tCD fSum (tA1 (tR 3) tA0)))) (tOrB (tNotB (tBl (tIs .lst (tR 12)))) (tBl (t2 (dEq true) (tR 12) (tR 9))))) (tRt (tK (.bl false))) nxD)
  (tApp 12 (tK (.int 0))))))
  (sqD (tForL (tItl (tNF (tSize (tA1 (tK (.int 24)) (tA1 (t2 dAdd (tK (.int 24)) (tCl 2 (f__law_pick A) (tA1 (tN 2) (tA1 (tK (.int 100)) tA0)))) (tA1 (t2 dMul (tR 8) (tK (.int 24))) (tA1 (t2 dPow (tK (.int 10)) (tK (.int 30))) (tA1 (t2 dAdd (t2 dPow (tK (.int 10)) (tK (.int 29))) (tCl 2 (f__law_pick A) (tA1 (tN 2) (tA1 (t2 dPow (tK (.int 10)) (tK (.int 9))) tA0)))) tA0)))))))) (gN 13)
  (tIf (tBl (t2 (dEq true) (tCl 2 (f_divisor A) (tA1 (tN 3) (tA1 (tN 13) tA0))) (tCD fMax (tA1 (tNF (tLc (tItl (tN 9)) [10] (gN 10) (tBl (t2 (dEq false) (t2 dMod (tR 13) (tR 10)) (tK (.int 0)))) (tN 10))) tA0)))) (tRt (tK (.bl false))) nxD))
  (sqD (tForL (tItl (tNF (tSize (tA1 (tK .non) (tA1 (tTupD tA0) (tA1 (tNF (tTupI (tN 3))) (tA1 (tTupD (tA1 (tK (.int 0)) tA0)) (tA1 (tTupD (tA1 (tK (.int 1)) (tA1 (tNeg (tK (.int 1))) tA0))) (tA1 (tTupD (tA1 (tK (.int 12)) tA0)) tA0))))))))) (gN 6)
  (sqD (tSet 14 (tNF (tSize (tA1 (tCl 2 (f__law_by_one K A Φ) (tA1 (tK (.ref (A "total"))) (tA1 (tN 6) tA0))) (tA1 (tCl 2 (f__law_by_one K A Φ) (tA1 (tK (.ref (A "divisors"))) (tA1 (tN 6) tA0))) (tA1 (tCl 3 (f__law_by_two K A Φ) (tA1 (tK (.ref (A "divisor"))) (tA1 (tN 6) (tA1 (tK .non) tA0)))) tA0))))))
  (tIf (tBl (t2 (dEq true) (tR 14) (tNF (tRepL (tSize (tA1 (tK (.str "script")) tA0)) (tK (.int 3)))))) (tRt (tK (.bl false))) nxD)))
  (tForL (tItl (tNF (tSize (tA1 (tK .non) (tA1 (tK (.int 23)) (tA1 (tK (.bl true)) (tA1 (t2 dAdd (t2 dPow (tK (.int 10)) (tK (.int 30))) (tK (.int 1))) (tA1 (tK (.str "24")) tA0)))))))) (gN 6)
  (tIf (tBl (t2 (dEq true) (tCl 3 (f__law_by_two K A Φ) (tA1 (tK (.ref (A "divisor"))) (tA1 (tN 3) (tA1 (tN 6) tA0)))) (tK (.str "ring")))) (tRt (tK (.bl false))) nxD)))))))))))))
  (sqD (tSet 15 (tNF (tSize (tA1 (tTupD (tA1 (tRepT (tTupD (tA1 (tK (.int 11)) tA0)) (tK (.int 5))) (tA1 (tK (.bl true)) tA0))) (tA1 (tTupD (tA1 (tRepT (tTupD (tA1 (tK (.int 1)) tA0)) (tK (.int 6))) (tA1 (tK (.bl false)) tA0))) (tA1 (tTupD (tA1 (tTupD (tA1 (tK (.bl true)) tA0)) (tA1 (tK (.bl false)) tA0))) (tA1 (tTupD (tA1 (tTupD (tA1 (tK (.int 0)) (tA1 (tK (.int 1)) tA0))) (tA1 (tK (.bl false)) tA0))) (tA1 (tTupD (tA1 (tTupD (tA1 (tNeg (tK (.int 11))) tA0)) (tA1 (tK (.bl true)) tA0))) (tA1 (tTupD (tA1 (tTupD (tA1 (tK (.int 5)) (tA1 (tNeg (tK (.int 5))) tA0))) (tA1 (tK (.bl false)) tA0))) tA0)))))))))
  (tRt (t2 (dEq false) (tNF (tLc (tItl (tN 15)) [7, 9] (gT [7, 9]) (tBl (t2 (dEq true) (tCl 1 (f_is_script A) (tA1 (tN 7) tA0)) (tR 9))) (tN 7))) (tNF (tSize tA0))))))
def N_law : List Str := ["script", "k", "source", "steps", "values", "turn", "odd", "value", "whole", "due", "part", "again", "told", "n", "found", "rows"]
def t_law (A : Str → Addr) (K : PySem.W.Frag) (Φ : Addr → Nat → Option Fn) : TDS :=
  (p1_0_law A K Φ)

end Wn

set_option Elab.async false
set_option linter.all false
set_option maxRecDepth 100000
set_option maxHeartbeats 1000000
namespace Wn
open PySem PySem.Spec PyProof.Rows L2
/-! what the program's small defs answer, by data -/
def whole (v : D) (lo hi : Int) : Bool := match v with
  | .int i => decide (lo ≤ i) && decide (i ≤ hi)
  | _ => false
def stepB (v : D) : Bool := whole v (-11) 11 && !D.eqB v (.int 0)
def toI : D → Int
  | .int i => i
  | _ => 0
def sumI (ds : List D) : Int := (ds.map toI).sum
def scriptB (v : D) : Bool := match v with
  | .tup ds => decide (1 ≤ (ds.length : Int)) && decide ((ds.length : Int) ≤ 5) && ds.all stepB && !(sumI (ds.filter stepB) == 0)
  | _ => false
theorem whole_e (i lo hi : Int) : whole (.int i) lo hi = (decide (lo ≤ i) && decide (i ≤ hi)) := rfl
theorem scriptB_e (ds : List D) : scriptB (.tup ds) = (decide (1 ≤ (ds.length : Int)) && decide ((ds.length : Int) ≤ 5) && ds.all stepB && !(sumI (ds.filter stepB) == 0)) := rfl
theorem whole_int {v : D} {lo hi : Int} (h : whole v lo hi = true) : v = .int (toI v) ∧ lo ≤ toI v ∧ toI v ≤ hi := by
  cases v with
  | int i =>
    unfold whole at h
    rw [Bool.and_eq_true, decide_eq_true_eq, decide_eq_true_eq] at h
    exact ⟨rfl, h⟩
  | _ => cases h
theorem intsOf_all : ∀ ds : List D, (∀ d ∈ ds, d = .int (toI d)) → intsOf ds = some (ds.map toI)
  | [], _ => rfl
  | d :: ds, h => by
    rw [h d List.mem_cons_self]
    show (intsOf ds).map (toI d :: ·) = _
    rw [intsOf_all ds fun x hx => h x (List.mem_cons_of_mem _ hx)]
    rfl
theorem ints_all : ∀ ds : List D, (∀ d ∈ ds, d = .int (toI d)) → ds = (ds.map toI).map D.int
  | [], _ => rfl
  | d :: ds, h => by
    rw [List.map_cons, List.map_cons, ← h d List.mem_cons_self, ← ints_all ds fun x hx => h x (List.mem_cons_of_mem _ hx)]
theorem stepB_int {v : D} (h : stepB v = true) : v = .int (toI v) ∧ -11 ≤ toI v ∧ toI v ≤ 11 ∧ toI v ≠ 0 := by
  unfold stepB at h
  rw [Bool.and_eq_true] at h
  obtain ⟨e, h1, h2⟩ := whole_int h.1
  refine ⟨e, h1, h2, fun z => ?_⟩
  rw [e, z, eqB_int] at h
  exact absurd h.2 (by decide)
/-- what a script is -/
structure Scr (v : D) (ns : List Int) : Prop where
  e : v = .tup (ns.map D.int)
  l1 : 1 ≤ ns.length
  l2 : ns.length ≤ 5
  st : ∀ n ∈ ns, -11 ≤ n ∧ n ≤ 11 ∧ n ≠ 0
  sm : ns.sum ≠ 0
theorem toI_int : ∀ ns : List Int, (ns.map D.int).map toI = ns
  | [] => rfl
  | n :: ns => by
    rw [List.map_cons, List.map_cons, toI_int ns] <;> rfl
theorem stepB_of {n : Int} (h1 : -11 ≤ n) (h2 : n ≤ 11) (h3 : n ≠ 0) : stepB (.int n) = true := by
  unfold stepB
  rw [whole_e, eqB_int, decide_eq_true h1, decide_eq_true h2, beq_false_of_ne h3] <;> rfl
theorem scriptB_scr {v : D} (h : scriptB v = true) : ∃ ns, Scr v ns := by
  cases v with
  | tup ds =>
    unfold scriptB at h
    rw [Bool.and_eq_true, Bool.and_eq_true, Bool.and_eq_true, decide_eq_true_eq, decide_eq_true_eq] at h
    obtain ⟨⟨⟨h1, h2⟩, h3⟩, h4⟩ := h
    have hs := List.all_eq_true.mp h3
    have hi : ∀ d ∈ ds, d = .int (toI d) := fun d hd => (stepB_int (hs d hd)).1
    have hf : ds.filter stepB = ds := List.filter_eq_self.mpr hs
    rw [hf] at h4
    refine ⟨ds.map toI, by rw [← ints_all ds hi], by rw [List.length_map]; omega, by rw [List.length_map]; omega, fun n hn => ?_, fun z => ?_⟩
    · obtain ⟨d, hd, e⟩ := List.mem_map.mp hn
      rw [← e]
      exact (stepB_int (hs d hd)).2
    · unfold sumI at h4
      rw [z] at h4
      exact absurd h4 (by decide)
  | _ => cases h
theorem scr_scriptB {v : D} {ns : List Int} (h : Scr v ns) : scriptB v = true := by
  have hs : ∀ d ∈ ns.map D.int, stepB d = true := fun d hd => by
    obtain ⟨n, hn, e⟩ := List.mem_map.mp hd
    rw [← e]
    obtain ⟨h1, h2, h3⟩ := h.st n hn
    exact stepB_of h1 h2 h3
  rw [h.e]
  rw [scriptB_e, List.filter_eq_self.mpr hs, List.all_eq_true.mpr hs]
  unfold sumI
  rw [toI_int, List.length_map, decide_eq_true (by have := h.l1; omega), decide_eq_true (by have := h.l2; omega), beq_false_of_ne h.sm] <;> rfl
section
variable {A : Str → Addr} {s : Option Addr} {P : D → Prop} {PL : List D → Prop} {EP : Addr → Prop}
theorem q_is_within {v : D} {lo hi : Int} (hv : v.ty.isSome = true) (h : P (.bl (whole v lo hi))) : f_is_within A s [v, .int lo, .int hi] P EP := by
  cases v <;> first
    | (simp [D.ty] at hv; done)
    | (simp [f_is_within, N_is_within, t_is_within, bodyF, bodyN, startD, tRt, tRn, tRo, tAndD, tOrD, tNotD, tNeg, tIs, tR, tN, tK, tCl, tClN, tA0, tA1, t2, fI, fI0, tCh, tIf, tOrB, tAndB, tNotB, tBl, tCD, fLen, fAbs, fInt, sqD, nxD, tSet, tSetN, tEx, tRs, tPar2, tMF, tMN, tM0, MI.slot, DE.set, rdS, D.ty, isTy, tNF, tTupI, tItl, tOwn, tTupD, tSize, tIfE, tIx, dIx, tIxO, tSrcI, tSrcW, tSc, tApp, tStI, tCatL, tCatT, tSlL, tSlT, tRev, tTupL, tO0, tO1, fzD, tFz, gN, gT, setAll, itemsX, szOk, wipeD, tLc, yesD, whole] at h ⊢; assumption)
    | skip
  rename_i i
  by_cases h1 : lo ≤ i
  · simp [f_is_within, N_is_within, t_is_within, bodyF, bodyN, startD, tRt, tRn, tRo, tAndD, tOrD, tNotD, tNeg, tIs, tR, tN, tK, tCl, tClN, tA0, tA1, t2, fI, fI0, tCh, tIf, tOrB, tAndB, tNotB, tBl, tCD, fLen, fAbs, fInt, sqD, nxD, tSet, tSetN, tEx, tRs, tPar2, tMF, tMN, tM0, MI.slot, DE.set, rdS, D.ty, isTy, tNF, tTupI, tItl, tOwn, tTupD, tSize, tIfE, tIx, dIx, tIxO, tSrcI, tSrcW, tSc, tApp, tStI, tCatL, tCatT, tSlL, tSlT, tRev, tTupL, tO0, tO1, fzD, tFz, gN, gT, setAll, itemsX, szOk, wipeD, tLc, yesD, whole, h1] at h ⊢
    exact h
  · simp [f_is_within, N_is_within, t_is_within, bodyF, bodyN, startD, tRt, tRn, tRo, tAndD, tOrD, tNotD, tNeg, tIs, tR, tN, tK, tCl, tClN, tA0, tA1, t2, fI, fI0, tCh, tIf, tOrB, tAndB, tNotB, tBl, tCD, fLen, fAbs, fInt, sqD, nxD, tSet, tSetN, tEx, tRs, tPar2, tMF, tMN, tM0, MI.slot, DE.set, rdS, D.ty, isTy, tNF, tTupI, tItl, tOwn, tTupD, tSize, tIfE, tIx, dIx, tIxO, tSrcI, tSrcW, tSc, tApp, tStI, tCatL, tCatT, tSlL, tSlT, tRev, tTupL, tO0, tO1, fzD, tFz, gN, gT, setAll, itemsX, szOk, wipeD, tLc, yesD, whole, h1] at h ⊢
    exact h
theorem q_is_step {v : D} (hv : D.ok 64 v = true) (h : P (.bl (stepB v))) : f_is_step A s [v] P EP := by
  change f_is_within A s [v, .int (-11), .int 11] _ _
  refine q_is_within (D.ok_ty hv) ?_
  unfold stepB at h
  cases q : whole v (-11) 11 with
  | false =>
    rw [q] at h
    exact ⟨rfl, h⟩
  | true =>
    rw [q] at h
    exact dEq_ok (neg := true) hv ok_int ⟨rfl, h⟩
theorem q_is_right_script {v : D} (hv : D.ok 64 v = true) (h : P (.bl (scriptB v))) : f_is_right_script A s [v] P EP := by
  cases v with
  | tup ds =>
    have hd : ∀ d ∈ ds, D.ok 64 d = true := fun d hd => D.ok_mono 63 64 d (by omega) (List.all_eq_true.mp (show ds.all (D.ok 63) = true from hv) d hd)
    rw [scriptB_e] at h
    by_cases h1 : 1 ≤ (ds.length : Int)
    · by_cases h2 : (ds.length : Int) ≤ 5
      · rw [decide_eq_true h1, decide_eq_true h2] at h
        have key : szOk ds.length (compD (gN 1) yesD (tCl 1 (f_is_step A) (tA1 (tN 1) tA0)) (wipeD ⟨s, startD N_is_right_script [.tup ds]⟩ [1]) (fun xs => fAll [.lst xs] (fun d => match d with
            | .bl true => tLc (tTupI (tN 0)) [1] (gN 1) (tBl (tCl 1 (f_is_step A) (tA1 (tN 1) tA0))) (tN 1) ⟨s, startD N_is_right_script [.tup ds]⟩ (fun ys => fSum [.lst ys] (fun z => dEq true z (.int 0) fun d => s = s ∧ P d)) (fun c => s = s ∧ EP c)
            | .bl false => s = s ∧ P (.bl false)
            | _ => False)) ds []) := by
          refine szOk.mk (by omega) (comp_map (fun d => .bl (stepB d)) ds [] (fun x hx Q hQ => q_is_step (A := A) (hd x hx) hQ) ?_)
          rw [List.nil_append]
          have e : blsOf (ds.map fun d => D.bl (stepB d)) = some (ds.map stepB) := by
            have := blsOf_map (ds.map stepB)
            rw [List.map_map] at this
            exact this
          refine onBls_mk e ?_
          rw [show (ds.map stepB).all id = ds.all stepB from by rw [List.all_map] <;> rfl]
          cases q : ds.all stepB with
          | false =>
            rw [q] at h
            exact ⟨rfl, h⟩
          | true =>
            rw [q] at h
            refine szOk.mk (by omega) (comp_fil stepB id ds [] (fun x hx Q hQ => q_is_step (A := A) (hd x hx) hQ) (fun x hx hb Q hQ => hQ) ?_)
            rw [List.nil_append, List.map_id]
            have hi : ∀ d ∈ ds.filter stepB, d = .int (toI d) := fun d hd => (stepB_int (List.mem_filter.mp hd).2).1
            refine onInts_mk (intsOf_all _ hi) (dEq_ok (neg := true) ok_int ok_int ⟨rfl, ?_⟩)
            rw [eqB_int]
            exact h
        simp [f_is_right_script, N_is_right_script, t_is_right_script, bodyF, bodyN, startD, tRt, tRn, tRo, tAndD, tOrD, tNotD, tNeg, tIs, tR, tN, tK, tCl, tClN, tA0, tA1, t2, fI, fI0, tCh, tIf, tOrB, tAndB, tNotB, tBl, tCD, fLen, fAbs, fInt, sqD, nxD, tSet, tSetN, tEx, tRs, tPar2, tMF, tMN, tM0, MI.slot, DE.set, rdS, D.ty, isTy, tNF, tTupI, tItl, tOwn, tTupD, tSize, tIfE, tIx, dIx, tIxO, tSrcI, tSrcW, tSc, tApp, tStI, tCatL, tCatT, tSlL, tSlT, tRev, tTupL, tO0, tO1, fzD, tFz, gN, gT, setAll, itemsX, szOk, wipeD, tLc, yesD, h1, h2] at key ⊢
        exact key
      · rw [decide_eq_false h2, Bool.and_false] at h
        simp [f_is_right_script, N_is_right_script, t_is_right_script, bodyF, bodyN, startD, tRt, tRn, tRo, tAndD, tOrD, tNotD, tNeg, tIs, tR, tN, tK, tCl, tClN, tA0, tA1, t2, fI, fI0, tCh, tIf, tOrB, tAndB, tNotB, tBl, tCD, fLen, fAbs, fInt, sqD, nxD, tSet, tSetN, tEx, tRs, tPar2, tMF, tMN, tM0, MI.slot, DE.set, rdS, D.ty, isTy, tNF, tTupI, tItl, tOwn, tTupD, tSize, tIfE, tIx, dIx, tIxO, tSrcI, tSrcW, tSc, tApp, tStI, tCatL, tCatT, tSlL, tSlT, tRev, tTupL, tO0, tO1, fzD, tFz, gN, gT, setAll, itemsX, szOk, wipeD, tLc, yesD, h1, h2] at h ⊢
        exact h
    · rw [decide_eq_false h1] at h
      simp [f_is_right_script, N_is_right_script, t_is_right_script, bodyF, bodyN, startD, tRt, tRn, tRo, tAndD, tOrD, tNotD, tNeg, tIs, tR, tN, tK, tCl, tClN, tA0, tA1, t2, fI, fI0, tCh, tIf, tOrB, tAndB, tNotB, tBl, tCD, fLen, fAbs, fInt, sqD, nxD, tSet, tSetN, tEx, tRs, tPar2, tMF, tMN, tM0, MI.slot, DE.set, rdS, D.ty, isTy, tNF, tTupI, tItl, tOwn, tTupD, tSize, tIfE, tIx, dIx, tIxO, tSrcI, tSrcW, tSc, tApp, tStI, tCatL, tCatT, tSlL, tSlT, tRev, tTupL, tO0, tO1, fzD, tFz, gN, gT, setAll, itemsX, szOk, wipeD, tLc, yesD, h1] at h ⊢
      exact h
  | _ => first
    | (simp [D.ok] at hv; done)
    | (simp [f_is_right_script, N_is_right_script, t_is_right_script, bodyF, bodyN, startD, tRt, tRn, tRo, tAndD, tOrD, tNotD, tNeg, tIs, tR, tN, tK, tCl, tClN, tA0, tA1, t2, fI, fI0, tCh, tIf, tOrB, tAndB, tNotB, tBl, tCD, fLen, fAbs, fInt, sqD, nxD, tSet, tSetN, tEx, tRs, tPar2, tMF, tMN, tM0, MI.slot, DE.set, rdS, D.ty, isTy, tNF, tTupI, tItl, tOwn, tTupD, tSize, tIfE, tIx, dIx, tIxO, tSrcI, tSrcW, tSc, tApp, tStI, tCatL, tCatT, tSlL, tSlT, tRev, tTupL, tO0, tO1, fzD, tFz, gN, gT, setAll, itemsX, szOk, wipeD, tLc, yesD, scriptB] at h ⊢; exact h)
theorem q_is_script {v : D} (hv : D.ok 64 v = true) (h : P (.bl (scriptB v))) : f_is_script A s [v] P EP := by
  change f_is_right_script A s [v] _ _
  exact q_is_right_script hv ⟨rfl, h⟩
theorem q_need_script {v : D} (hv : D.ok 64 v = true) (h1 : scriptB v = true → P .non) (h2 : scriptB v = false → EP (A "InvalidScript")) : f_need_script A s [v] P EP := by
  change f_is_right_script A s [v] _ _
  refine q_is_right_script hv ?_
  cases q : scriptB v with
  | false => exact ⟨rfl, h2 q⟩
  | true => exact ⟨rfl, h1 q⟩
theorem q_need_ring {v : D} (hv : v.ty.isSome = true) (h1 : whole v 24 1000000000000000000000000000000 = true → P .non) (h2 : whole v 24 1000000000000000000000000000000 = false → EP (A "InvalidRing")) : f_need_ring A s [v] P EP := by
  simp [f_need_ring, N_need_ring, t_need_ring, bodyF, bodyN, startD, tRt, tRn, tRo, tAndD, tOrD, tNotD, tNeg, tIs, tR, tN, tK, tCl, tClN, tA0, tA1, t2, fI, fI0, tCh, tIf, tOrB, tAndB, tNotB, tBl, tCD, fLen, fAbs, fInt, sqD, nxD, tSet, tSetN, tEx, tRs, tPar2, tMF, tMN, tM0, MI.slot, DE.set, rdS, D.ty, isTy, tNF, tTupI, tItl, tOwn, tTupD, tSize, tIfE, tIx, dIx, tIxO, tSrcI, tSrcW, tSc, tApp, tStI, tCatL, tCatT, tSlL, tSlT, tRev, tTupL, tO0, tO1, fzD, tFz, gN, gT, setAll, itemsX, szOk, wipeD, tLc, yesD]
  refine q_is_within hv ?_
  cases q : whole v 24 1000000000000000000000000000000 with
  | false => exact h2 q
  | true => exact h1 q
end
end Wn

set_option Elab.async false
set_option linter.all false
set_option maxRecDepth 100000
set_option maxHeartbeats 200000
namespace Wn
open PySem PySem.Spec PyProof.Rows L2
section
variable {A : Str → Addr} {s : Option Addr} {P : D → Prop} {PL : List D → Prop} {EP : Addr → Prop}
theorem q_total {v : D} (hv : D.ok 64 v = true) (h1 : ∀ ns, Scr v ns → P (.int ns.sum)) (h2 : scriptB v = false → EP (A "InvalidScript")) : f_total A s [v] P EP := by
  simp [f_total, N_total, t_total, bodyF, bodyN, startD, tRt, tRn, tRo, tAndD, tOrD, tNotD, tNeg, tIs, tR, tN, tK, tCl, tClN, tA0, tA1, t2, fI, fI0, tCh, tIf, tOrB, tAndB, tNotB, tBl, tCD, fLen, fAbs, fInt, sqD, nxD, tSet, tSetN, tEx, tRs, tPar2, tMF, tMN, tM0, MI.slot, DE.set, rdS, D.ty, isTy, tNF, tTupI, tItl, tOwn, tTupD, tSize, tIfE, tIx, dIx, tIxO, tSrcI, tSrcW, tSc, tApp, tStI, tCatL, tCatT, tSlL, tSlT, tRev, tTupL, tO0, tO1, fzD, tFz, gN, gT, setAll, itemsX, szOk, wipeD, tLc, yesD]
  refine q_need_script hv (fun q => ?_) fun q => h2 q
  obtain ⟨ns, sc⟩ := scriptB_scr q
  unfold fSum
  rw [sc.e]
  exact onInts_mkT (intsOf_map ns) (h1 ns sc)
/-- the divisors, ascending -/
def divL (m : Int) : List Int := ((List.range m.natAbs).map fun (k : Nat) => 1 + (k : Int)).filter fun d => (m.natAbs : Int) % d == 0
theorem abs_e (m : Int) : (if m < 0 then -m else m) = (m.natAbs : Int) := by split <;> omega
theorem q_divisors_of {m : Int} (hm : m.natAbs ≤ 1000) (h : PL ((divL m).map D.int)) : f_divisors_of A s [.int m] PL EP := by
  change (fun (k : Int) => (-(2 ^ 62) ≤ (1 : Int) ∧ (1 : Int) < 2 ^ 62 ∧ -(2 ^ 62) ≤ k + 1 ∧ k + 1 < 2 ^ 62) ∧ szOk (rgD 1 (k + 1 - 1).toNat).length (compD (gN 2) (tBl (t2 (dEq false) (t2 dMod (tR 1) (tR 2)) (tK (.int 0)))) (tN 2) ⟨s, [.d (.int m), .d (.int k), .no]⟩ (fun ds => s = s ∧ PL ds) (rgD 1 (k + 1 - 1).toNat) [])) (if m < 0 then -m else m)
  rw [abs_e]
  have e0 : ((m.natAbs : Int) + 1 - 1).toNat = m.natAbs := by omega
  dsimp only
  rw [e0, rgD_len]
  refine ⟨by omega, szOk.mk (by omega) ?_⟩
  refine comp_fil (fun x => (m.natAbs : Int) % toI x == 0) id _ _ (fun x hx Q hQ => ?_) (fun x hx hb Q hQ => hQ) ?_
  · obtain ⟨k, hk, e⟩ := rgD_mem hx
    subst e
    simp [bodyF, bodyN, startD, tRt, tRn, tRo, tAndD, tOrD, tNotD, tNeg, tIs, tR, tN, tK, tCl, tClN, tA0, tA1, t2, fI, fI0, tCh, tIf, tOrB, tAndB, tNotB, tBl, tCD, fLen, fAbs, fInt, sqD, nxD, tSet, tSetN, tEx, tRs, tPar2, tMF, tMN, tM0, MI.slot, DE.set, rdS, D.ty, isTy, tNF, tTupI, tItl, tOwn, tTupD, tSize, tIfE, tIx, dIx, tIxO, tSrcI, tSrcW, tSc, tApp, tStI, tCatL, tCatT, tSlL, tSlT, tRev, tTupL, tO0, tO1, fzD, tFz, gN, gT, setAll, itemsX, szOk, wipeD, tLc, yesD]
    refine ⟨by omega, dEq_ok ok_int ok_int ?_⟩
    rw [eqB_int]
    exact hQ
  · refine ⟨rfl, ?_⟩
    have e : ([] : List D) ++ List.map id (List.filter (fun x => (m.natAbs : Int) % toI x == 0) (rgD 1 m.natAbs)) = (divL m).map D.int := by
      rw [List.nil_append, List.map_id]
      unfold divL rgD
      rw [List.filter_map, List.filter_map, List.map_map]
      rfl
    rw [e]
    exact h
theorem sum_abs : ∀ ns : List Int, (∀ n ∈ ns, -11 ≤ n ∧ n ≤ 11 ∧ n ≠ 0) → ns.sum.natAbs ≤ 11 * ns.length
  | [], _ => by simp
  | n :: ns, h => by
    have h1 := h n List.mem_cons_self
    have h2 := sum_abs ns fun m hm => h m (List.mem_cons_of_mem _ hm)
    rw [List.sum_cons, List.length_cons]
    omega
theorem Scr.abs {v : D} {ns : List Int} (h : Scr v ns) : ns.sum.natAbs ≤ 55 := by
  have h1 := sum_abs ns h.st
  have h2 := h.l2
  omega
theorem q_divisors {v : D} (hv : D.ok 64 v = true) (h1 : ∀ ns, Scr v ns → PL ((divL ns.sum).map D.int)) (h2 : scriptB v = false → EP (A "InvalidScript")) : f_divisors A s [v] PL EP := by
  simp [f_divisors, N_divisors, t_divisors, bodyF, bodyN, startD, tRt, tRn, tRo, tAndD, tOrD, tNotD, tNeg, tIs, tR, tN, tK, tCl, tClN, tA0, tA1, t2, fI, fI0, tCh, tIf, tOrB, tAndB, tNotB, tBl, tCD, fLen, fAbs, fInt, sqD, nxD, tSet, tSetN, tEx, tRs, tPar2, tMF, tMN, tM0, MI.slot, DE.set, rdS, D.ty, isTy, tNF, tTupI, tItl, tOwn, tTupD, tSize, tIfE, tIx, dIx, tIxO, tSrcI, tSrcW, tSc, tApp, tStI, tCatL, tCatT, tSlL, tSlT, tRev, tTupL, tO0, tO1, fzD, tFz, gN, gT, setAll, itemsX, szOk, wipeD, tLc, yesD]
  refine q_need_script hv (fun q => ?_) fun q => h2 q
  obtain ⟨ns, sc⟩ := scriptB_scr q
  unfold fSum
  rw [sc.e]
  refine onInts_mkT (intsOf_map ns) ?_
  have hb := sc.abs
  exact q_divisors_of (by omega) (h1 ns sc)
theorem q_shared {a b : Int} (h : P (.int (Int.gcd a b))) : f_shared A s [.int a, .int b] P EP := by
  change tWh (tBl (t2 (dEq true) (tR 1) (tK (.int 0)))) (tPar2 0 1 (tMF (tN 1) (tMF (t2 dMod (tR 0) (tR 1)) tM0))) ⟨s, [.d (.int (if a < 0 then -a else a)), .d (.int (if b < 0 then -b else b))]⟩ _
  rw [abs_e, abs_e]
  refine ⟨fun n δ => ∃ x y : Nat, δ = ⟨s, [.d (.int x), .d (.int y)]⟩ ∧ n = y ∧ Nat.gcd x y = Int.gcd a b, ⟨b.natAbs, a.natAbs, b.natAbs, rfl, rfl, rfl⟩, fun n δ ⟨x, y, e, en, eg⟩ => ?_⟩
  subst e
  subst en
  simp [bodyF, bodyN, startD, tRt, tRn, tRo, tAndD, tOrD, tNotD, tNeg, tIs, tR, tN, tK, tCl, tClN, tA0, tA1, t2, fI, fI0, tCh, tIf, tOrB, tAndB, tNotB, tBl, tCD, fLen, fAbs, fInt, sqD, nxD, tSet, tSetN, tEx, tRs, tPar2, tMF, tMN, tM0, MI.slot, DE.set, rdS, D.ty, isTy, tNF, tTupI, tItl, tOwn, tTupD, tSize, tIfE, tIx, dIx, tIxO, tSrcI, tSrcW, tSc, tApp, tStI, tCatL, tCatT, tSlL, tSlT, tRev, tTupL, tO0, tO1, fzD, tFz, gN, gT, setAll, itemsX, szOk, wipeD, tLc, yesD]
  refine dEq_ok ok_int ok_int ?_
  rw [eqB_int]
  by_cases hy : n = 0
  · subst hy
    rw [Nat.gcd_zero_right] at eg
    rw [← eg] at h
    exact h
  · have e : ((n : Int) == 0) = false := beq_false_of_ne (by omega)
    rw [e]
    refine ⟨by omega, x % n, Nat.mod_lt _ (Nat.pos_of_ne_zero hy), n, x % n, ?_, rfl, ?_⟩
    · exact ⟨rfl, rfl⟩
    · rw [← eg, Nat.gcd_comm x n, Nat.gcd_rec n x, Nat.gcd_comm]
theorem q_divisor {v n : D} (hv : D.ok 64 v = true) (hn : n.ty.isSome = true) (h1 : ∀ ns i, Scr v ns → n = .int i → 24 ≤ i → i ≤ 1000000000000000000000000000000 → P (.int (Int.gcd i ns.sum))) (h2 : scriptB v = false → EP (A "InvalidScript")) (h3 : scriptB v = true → whole n 24 1000000000000000000000000000000 = false → EP (A "InvalidRing")) : f_divisor A s [v, n] P EP := by
  simp [f_divisor, N_divisor, t_divisor, bodyF, bodyN, startD, tRt, tRn, tRo, tAndD, tOrD, tNotD, tNeg, tIs, tR, tN, tK, tCl, tClN, tA0, tA1, t2, fI, fI0, tCh, tIf, tOrB, tAndB, tNotB, tBl, tCD, fLen, fAbs, fInt, sqD, nxD, tSet, tSetN, tEx, tRs, tPar2, tMF, tMN, tM0, MI.slot, DE.set, rdS, D.ty, isTy, tNF, tTupI, tItl, tOwn, tTupD, tSize, tIfE, tIx, dIx, tIxO, tSrcI, tSrcW, tSc, tApp, tStI, tCatL, tCatT, tSlL, tSlT, tRev, tTupL, tO0, tO1, fzD, tFz, gN, gT, setAll, itemsX, szOk, wipeD, tLc, yesD]
  refine q_need_script hv (fun q => ?_) fun q => h2 q
  refine q_need_ring hn (fun q2 => ?_) fun q2 => h3 q q2
  obtain ⟨ns, sc⟩ := scriptB_scr q
  obtain ⟨e, b1, b2⟩ := whole_int q2
  unfold fSum
  rw [sc.e]
  refine onInts_mkT (intsOf_map ns) ?_
  rw [e]
  exact q_shared (h1 ns _ sc e b1 b2)
end
end Wn

set_option Elab.async false
set_option linter.all false
set_option maxRecDepth 100000
set_option maxHeartbeats 400000
namespace Wn
open PySem PySem.Spec PyProof.Rows L2
theorem cmul_l {i j : Int} (h1 : -(2 ^ 64) < i) (h2 : i < 2 ^ 64) : CMul i j := .inl ⟨h1, h2⟩
theorem cmul_r {i j : Int} (h1 : -(2 ^ 64) < j) (h2 : j < 2 ^ 64) : CMul i j := .inr ⟨h1, h2⟩
theorem md (z n : Int) (hn : 0 < n) : 0 ≤ z % n ∧ z % n < n := ⟨Int.emod_nonneg z (by omega), Int.emod_lt_of_pos z hn⟩
theorem cpow_18 : CPow 10 18 := ⟨by omega, by omega, by omega⟩
theorem atI_nat {α : Type} {xs : List α} {k : Int} (h0 : 0 ≤ k) (h : k < xs.length) : L2.atI xs k = xs[k.toNat]? := by
  unfold L2.atI L2.ixN
  rw [if_pos h0, if_pos h]
  rfl
theorem atI_ints {ns : List Int} {k : Int} (h0 : 0 ≤ k) (h : k < ns.length) : ∃ n ∈ ns, L2.atI (ns.map D.int) k = some (.int n) := by
  have h2 : k.toNat < ns.length := by omega
  refine ⟨ns[k.toNat], List.getElem_mem h2, ?_⟩
  rw [atI_nat h0 (by rw [List.length_map]; exact h), List.getElem?_map, List.getElem?_eq_getElem h2]
  rfl
section
variable {A : Str → Addr} {s : Option Addr} {P : D → Prop} {PL : List D → Prop} {EP : Addr → Prop}
theorem q_pick {a : Addr} {n : Int} (hs : s = some a) (hn : 0 < n) (hn2 : n < 1073741824) (h : ∀ i, 0 ≤ i → i < n → P (.int i)) : f__law_pick A s [.ref a, .int n] P EP := by
  subst hs
  simp [f__law_pick, N__law_pick, t__law_pick, e_bodyF, e_bodyN, e_szOk, e_tSize, e_tCl, e_tClN, e_tNF, e_tSc, e_tK, e_tN, e_tR, e_t2, e_tCh, e_tBl, e_tAndB, e_tOrB, e_tNotB, e_tBV, e_tAndD, e_tOrD, e_tNotD, e_tNeg, e_tIfE, e_tIfL, e_tA0, e_tA1, e_tTupD, e_tCD, e_tItl, e_tOwn, e_tIs, e_tIx, e_tO0, e_tO1, e_tSlL, e_tSlT, e_tRev, e_tCatL, e_tRepL, e_tCatT, e_tRepT, e_tTupI, e_tTupL, e_sqD, e_nxD, e_tFz, e_tEx, e_tRt, e_tRn, e_tRo, e_tSet, e_tSetN, e_tIf, e_tRs, e_tSetG, e_tForL, e_tRg1, e_tRg2, e_tWh, e_tApp, e_tStI, e_yesD, e_tLc, e_tM0, e_tMF, e_tMN, e_tMK, e_tMT, e_tPar2, e_tPar3, e_tJoin, e_tIsE, e_tRef, e_tSrcS, e_tSrcI, e_tSrcW, e_tIxO, startD, DE.set, rdS, D.ty, isTy, fLen, fAbs, fInt, fI, fI0, gN, gT, setAll, itemsX, wipeD, MI.slot, fzD, dIx]
  intro z hz
  cases decide (0 < z) with
  | true => exact fun z _ => ⟨hn, fun y hy => ⟨⟨hn, hn2⟩, Int.ediv_nonneg hy (by omega), h _ (md z n hn).1 (md z n hn).2⟩⟩
  | false =>
    have m1 := fun z => md z 2147483647 (by omega)
    exact fun z hz hz2 => ⟨cmul_l (by omega) (by omega), ⟨(m1 _).1, by have := (m1 (z * 44497 + 9973)).2; omega⟩, fun z hz hz2 y hy hy2 => ⟨cmul_l (by omega) (by omega), ⟨by omega, by omega⟩, hn, h _ (md _ n hn).1 (md _ n hn).2⟩⟩
theorem q_source {ns : List Int} {k : Int} (hk : 0 ≤ k) (hk2 : k < 100) (h : ∀ x y : Int, 0 ≤ x → 0 ≤ y → y < 2147483648 → PL [.int x, .int y]) : f__law_source A s [.kl (ns.map D.int), .int k] PL EP := by
  simp [f__law_source, N__law_source, t__law_source, e_bodyF, e_bodyN, e_szOk, e_tSize, e_tCl, e_tClN, e_tNF, e_tSc, e_tK, e_tN, e_tR, e_t2, e_tCh, e_tBl, e_tAndB, e_tOrB, e_tNotB, e_tBV, e_tAndD, e_tOrD, e_tNotD, e_tNeg, e_tIfE, e_tIfL, e_tA0, e_tA1, e_tTupD, e_tCD, e_tItl, e_tOwn, e_tIs, e_tIx, e_tO0, e_tO1, e_tSlL, e_tSlT, e_tRev, e_tCatL, e_tRepL, e_tCatT, e_tRepT, e_tTupI, e_tTupL, e_sqD, e_nxD, e_tFz, e_tEx, e_tRt, e_tRn, e_tRo, e_tSet, e_tSetN, e_tIf, e_tRs, e_tSetG, e_tForL, e_tRg1, e_tRg2, e_tWh, e_tApp, e_tStI, e_yesD, e_tLc, e_tM0, e_tMF, e_tMN, e_tMK, e_tMT, e_tPar2, e_tPar3, e_tJoin, e_tIsE, e_tRef, e_tSrcS, e_tSrcI, e_tSrcW, e_tIxO, startD, DE.set, rdS, D.ty, isTy, fLen, fAbs, fInt, fI, fI0, gN, gT, setAll, itemsX, wipeD, MI.slot, fzD, dIx]
  have fin : ∀ i x : Int, 0 ≤ x → PL [.int x, .int ((i * 16807 + 60919 * k + 31) % 2147481173 * ((i * 16807 + 60919 * k + 31) % 2147481173) % 2147481151 + 2 * k + 5)] := fun i x hx => by
    have m1 := md ((i * 16807 + 60919 * k + 31) % 2147481173 * ((i * 16807 + 60919 * k + 31) % 2147481173)) 2147481151 (by omega)
    exact h _ _ hx (by omega) (by omega)
  have cm : ∀ i : Int, CMul ((i * 16807 + 60919 * k + 31) % 2147481173) ((i * 16807 + 60919 * k + 31) % 2147481173) := fun i => by
    have m1 := md (i * 16807 + 60919 * k + 31) 2147481173 (by omega)
    exact cmul_l (by omega) (by omega)
  have cp := cpow_18
  by_cases c : k < (ns.length : Int)
  · rw [decide_eq_true c]
    obtain ⟨n, hn, e⟩ := atI_ints hk c
    simp only [e]
    refine ⟨cmul_r (by omega) (by omega), cmul_l (by omega) (by omega), cm n, cmul_l (by omega) (by omega), cp, ?_⟩
    by_cases c2 : (1000000000000000000 : Int) ≤ n
    · rw [decide_eq_true c2]
      exact fin n n (by omega)
    · rw [decide_eq_false c2]
      exact fin n 0 (by omega)
  · rw [decide_eq_false c]
    have e0 : (0 : Int) * 16807 + 60919 * k + 31 = 60919 * k + 31 := by omega
    have f0 := fin 0 0 (by omega)
    have c0 := cm 0
    rw [e0] at f0 c0
    exact ⟨cmul_r (by omega) (by omega), cmul_l (by omega) (by omega), c0, cmul_l (by omega) (by omega), cp, f0⟩
theorem q_chosen {a : Addr} {x : D} {xs : List D} (hs : s = some a) (hx : x = .lst xs ∨ x = .tup xs) (h1 : 0 < xs.length) (h2 : xs.length < 1000000) (h : ∀ d ∈ xs, P d) : f__law_chosen A s [.ref a, x] P EP := by
  have key : f__law_pick A s [.ref a, .int xs.length] (fun i => dIx (.lst xs) i P) EP := by
    refine q_pick hs (by omega) (by omega) fun i hi hi2 => ?_
    have hl : i.toNat < xs.length := by omega
    show (match L2.atI xs i with | some d => P d | none => False)
    rw [atI_nat hi hi2, List.getElem?_eq_getElem hl]
    exact h _ (List.getElem_mem hl)
  have key2 : f__law_pick A s [.ref a, .int xs.length] (fun i => dIx (.tup xs) i P) EP := key
  rcases hx with z | z
  · subst z
    simp only [f__law_chosen, t__law_chosen, e_bodyF, e_tRt, e_tIx, e_tN, e_tCl, e_tA1, e_tA0, e_tCD, e_tR, startD, N__law_chosen, List.map, List.length, List.replicate, List.getElem?_cons_succ, List.getElem?_cons_zero, rdS, fLen, Nat.beq, true_and, List.cons_append, List.nil_append]
    exact key
  · subst z
    simp only [f__law_chosen, t__law_chosen, e_bodyF, e_tRt, e_tIx, e_tN, e_tCl, e_tA1, e_tA0, e_tCD, e_tR, startD, N__law_chosen, List.map, List.length, List.replicate, List.getElem?_cons_succ, List.getElem?_cons_zero, rdS, fLen, Nat.beq, true_and, List.cons_append, List.nil_append]
    exact key2
theorem q_is_bool {b c : Bool} (h : P (.bl (b == c))) : f__law_is_bool A s [.bl b, .bl c] P EP := by
  simp [f__law_is_bool, N__law_is_bool, t__law_is_bool, e_bodyF, e_bodyN, e_szOk, e_tSize, e_tCl, e_tClN, e_tNF, e_tSc, e_tK, e_tN, e_tR, e_t2, e_tCh, e_tBl, e_tAndB, e_tOrB, e_tNotB, e_tBV, e_tAndD, e_tOrD, e_tNotD, e_tNeg, e_tIfE, e_tIfL, e_tA0, e_tA1, e_tTupD, e_tCD, e_tItl, e_tOwn, e_tIs, e_tIx, e_tO0, e_tO1, e_tSlL, e_tSlT, e_tRev, e_tCatL, e_tRepL, e_tCatT, e_tRepT, e_tTupI, e_tTupL, e_sqD, e_nxD, e_tFz, e_tEx, e_tRt, e_tRn, e_tRo, e_tSet, e_tSetN, e_tIf, e_tRs, e_tSetG, e_tForL, e_tRg1, e_tRg2, e_tWh, e_tApp, e_tStI, e_yesD, e_tLc, e_tM0, e_tMF, e_tMN, e_tMK, e_tMT, e_tPar2, e_tPar3, e_tJoin, e_tIsE, e_tRef, e_tSrcS, e_tSrcI, e_tSrcW, e_tIxO, startD, DE.set, rdS, D.ty, isTy, fLen, fAbs, fInt, fI, fI0, gN, gT, setAll, itemsX, wipeD, MI.slot, fzD, dIx]
  refine dEq_ok rfl rfl ?_
  rw [eqB_bl]
  exact h
def wideB (v : D) (lo hi : Int) : Bool := match v with
  | .tup ds => decide (lo ≤ (ds.length : Int)) && decide ((ds.length : Int) ≤ hi)
  | _ => false
theorem q_wide {v : D} {lo hi : Int} (hv : D.ok 64 v = true) (h : P (.bl (wideB v lo hi))) : f__law_wide A s [v, .int lo, .int hi] P EP := by
  cases v with
  | tup ds =>
    by_cases h1 : lo ≤ (ds.length : Int)
    · simp [f__law_wide, N__law_wide, t__law_wide, e_bodyF, e_bodyN, e_szOk, e_tSize, e_tCl, e_tClN, e_tNF, e_tSc, e_tK, e_tN, e_tR, e_t2, e_tCh, e_tBl, e_tAndB, e_tOrB, e_tNotB, e_tBV, e_tAndD, e_tOrD, e_tNotD, e_tNeg, e_tIfE, e_tIfL, e_tA0, e_tA1, e_tTupD, e_tCD, e_tItl, e_tOwn, e_tIs, e_tIx, e_tO0, e_tO1, e_tSlL, e_tSlT, e_tRev, e_tCatL, e_tRepL, e_tCatT, e_tRepT, e_tTupI, e_tTupL, e_sqD, e_nxD, e_tFz, e_tEx, e_tRt, e_tRn, e_tRo, e_tSet, e_tSetN, e_tIf, e_tRs, e_tSetG, e_tForL, e_tRg1, e_tRg2, e_tWh, e_tApp, e_tStI, e_yesD, e_tLc, e_tM0, e_tMF, e_tMN, e_tMK, e_tMT, e_tPar2, e_tPar3, e_tJoin, e_tIsE, e_tRef, e_tSrcS, e_tSrcI, e_tSrcW, e_tIxO, startD, DE.set, rdS, D.ty, isTy, fLen, fAbs, fInt, fI, fI0, gN, gT, setAll, itemsX, wipeD, MI.slot, fzD, dIx, wideB, h1] at h ⊢
      exact h
    · simp [f__law_wide, N__law_wide, t__law_wide, e_bodyF, e_bodyN, e_szOk, e_tSize, e_tCl, e_tClN, e_tNF, e_tSc, e_tK, e_tN, e_tR, e_t2, e_tCh, e_tBl, e_tAndB, e_tOrB, e_tNotB, e_tBV, e_tAndD, e_tOrD, e_tNotD, e_tNeg, e_tIfE, e_tIfL, e_tA0, e_tA1, e_tTupD, e_tCD, e_tItl, e_tOwn, e_tIs, e_tIx, e_tO0, e_tO1, e_tSlL, e_tSlT, e_tRev, e_tCatL, e_tRepL, e_tCatT, e_tRepT, e_tTupI, e_tTupL, e_sqD, e_nxD, e_tFz, e_tEx, e_tRt, e_tRn, e_tRo, e_tSet, e_tSetN, e_tIf, e_tRs, e_tSetG, e_tForL, e_tRg1, e_tRg2, e_tWh, e_tApp, e_tStI, e_yesD, e_tLc, e_tM0, e_tMF, e_tMN, e_tMK, e_tMT, e_tPar2, e_tPar3, e_tJoin, e_tIsE, e_tRef, e_tSrcS, e_tSrcI, e_tSrcW, e_tIxO, startD, DE.set, rdS, D.ty, isTy, fLen, fAbs, fInt, fI, fI0, gN, gT, setAll, itemsX, wipeD, MI.slot, fzD, dIx, wideB, h1] at h ⊢
      exact h
  | _ => first
    | (simp [D.ok] at hv; done)
    | (simp [f__law_wide, N__law_wide, t__law_wide, e_bodyF, e_bodyN, e_szOk, e_tSize, e_tCl, e_tClN, e_tNF, e_tSc, e_tK, e_tN, e_tR, e_t2, e_tCh, e_tBl, e_tAndB, e_tOrB, e_tNotB, e_tBV, e_tAndD, e_tOrD, e_tNotD, e_tNeg, e_tIfE, e_tIfL, e_tA0, e_tA1, e_tTupD, e_tCD, e_tItl, e_tOwn, e_tIs, e_tIx, e_tO0, e_tO1, e_tSlL, e_tSlT, e_tRev, e_tCatL, e_tRepL, e_tCatT, e_tRepT, e_tTupI, e_tTupL, e_sqD, e_nxD, e_tFz, e_tEx, e_tRt, e_tRn, e_tRo, e_tSet, e_tSetN, e_tIf, e_tRs, e_tSetG, e_tForL, e_tRg1, e_tRg2, e_tWh, e_tApp, e_tStI, e_yesD, e_tLc, e_tM0, e_tMF, e_tMN, e_tMK, e_tMT, e_tPar2, e_tPar3, e_tJoin, e_tIsE, e_tRef, e_tSrcS, e_tSrcI, e_tSrcW, e_tIxO, startD, DE.set, rdS, D.ty, isTy, fLen, fAbs, fInt, fI, fI0, gN, gT, setAll, itemsX, wipeD, MI.slot, fzD, dIx, wideB] at h ⊢; exact h)
theorem q_whole {v : D} {lo hi : Int} (hv : v.ty.isSome = true) (h : P (.bl (whole v lo hi))) : f__law_whole A s [v, .int lo, .int hi] P EP := by
  cases v <;> first
    | (simp [D.ty] at hv; done)
    | (simp [f__law_whole, N__law_whole, t__law_whole, e_bodyF, e_bodyN, e_szOk, e_tSize, e_tCl, e_tClN, e_tNF, e_tSc, e_tK, e_tN, e_tR, e_t2, e_tCh, e_tBl, e_tAndB, e_tOrB, e_tNotB, e_tBV, e_tAndD, e_tOrD, e_tNotD, e_tNeg, e_tIfE, e_tIfL, e_tA0, e_tA1, e_tTupD, e_tCD, e_tItl, e_tOwn, e_tIs, e_tIx, e_tO0, e_tO1, e_tSlL, e_tSlT, e_tRev, e_tCatL, e_tRepL, e_tCatT, e_tRepT, e_tTupI, e_tTupL, e_sqD, e_nxD, e_tFz, e_tEx, e_tRt, e_tRn, e_tRo, e_tSet, e_tSetN, e_tIf, e_tRs, e_tSetG, e_tForL, e_tRg1, e_tRg2, e_tWh, e_tApp, e_tStI, e_yesD, e_tLc, e_tM0, e_tMF, e_tMN, e_tMK, e_tMT, e_tPar2, e_tPar3, e_tJoin, e_tIsE, e_tRef, e_tSrcS, e_tSrcI, e_tSrcW, e_tIxO, startD, DE.set, rdS, D.ty, isTy, fLen, fAbs, fInt, fI, fI0, gN, gT, setAll, itemsX, wipeD, MI.slot, fzD, dIx, whole] at h ⊢; assumption)
    | skip
  rename_i i
  by_cases h1 : lo ≤ i
  · simp [f__law_whole, N__law_whole, t__law_whole, e_bodyF, e_bodyN, e_szOk, e_tSize, e_tCl, e_tClN, e_tNF, e_tSc, e_tK, e_tN, e_tR, e_t2, e_tCh, e_tBl, e_tAndB, e_tOrB, e_tNotB, e_tBV, e_tAndD, e_tOrD, e_tNotD, e_tNeg, e_tIfE, e_tIfL, e_tA0, e_tA1, e_tTupD, e_tCD, e_tItl, e_tOwn, e_tIs, e_tIx, e_tO0, e_tO1, e_tSlL, e_tSlT, e_tRev, e_tCatL, e_tRepL, e_tCatT, e_tRepT, e_tTupI, e_tTupL, e_sqD, e_nxD, e_tFz, e_tEx, e_tRt, e_tRn, e_tRo, e_tSet, e_tSetN, e_tIf, e_tRs, e_tSetG, e_tForL, e_tRg1, e_tRg2, e_tWh, e_tApp, e_tStI, e_yesD, e_tLc, e_tM0, e_tMF, e_tMN, e_tMK, e_tMT, e_tPar2, e_tPar3, e_tJoin, e_tIsE, e_tRef, e_tSrcS, e_tSrcI, e_tSrcW, e_tIxO, startD, DE.set, rdS, D.ty, isTy, fLen, fAbs, fInt, fI, fI0, gN, gT, setAll, itemsX, wipeD, MI.slot, fzD, dIx, whole, h1] at h ⊢
    exact h
  · simp [f__law_whole, N__law_whole, t__law_whole, e_bodyF, e_bodyN, e_szOk, e_tSize, e_tCl, e_tClN, e_tNF, e_tSc, e_tK, e_tN, e_tR, e_t2, e_tCh, e_tBl, e_tAndB, e_tOrB, e_tNotB, e_tBV, e_tAndD, e_tOrD, e_tNotD, e_tNeg, e_tIfE, e_tIfL, e_tA0, e_tA1, e_tTupD, e_tCD, e_tItl, e_tOwn, e_tIs, e_tIx, e_tO0, e_tO1, e_tSlL, e_tSlT, e_tRev, e_tCatL, e_tRepL, e_tCatT, e_tRepT, e_tTupI, e_tTupL, e_sqD, e_nxD, e_tFz, e_tEx, e_tRt, e_tRn, e_tRo, e_tSet, e_tSetN, e_tIf, e_tRs, e_tSetG, e_tForL, e_tRg1, e_tRg2, e_tWh, e_tApp, e_tStI, e_yesD, e_tLc, e_tM0, e_tMF, e_tMN, e_tMK, e_tMT, e_tPar2, e_tPar3, e_tJoin, e_tIsE, e_tRef, e_tSrcS, e_tSrcI, e_tSrcW, e_tIxO, startD, DE.set, rdS, D.ty, isTy, fLen, fAbs, fInt, fI, fI0, gN, gT, setAll, itemsX, wipeD, MI.slot, fzD, dIx, whole, h1] at h ⊢
    exact h
end
end Wn

set_option Elab.async false
set_option linter.all false
set_option maxRecDepth 100000
set_option maxHeartbeats 400000
namespace Wn
open PySem PySem.Spec PyProof.Rows L2
/-- data of bounded depth and width -/
def D.wid (m : Nat) : Nat → D → Bool
  | _, .non => true
  | _, .bl _ => true
  | _, .int _ => true
  | _, .str x => PyData.canLay0 (.str x)
  | n + 1, .tup ds => decide (ds.length ≤ m) && ds.all (D.wid m n)
  | n + 1, .lst ds => decide (ds.length ≤ m) && ds.all (D.wid m n)
  | _, _ => false
theorem wid_ok {m : Nat} : ∀ (n : Nat) (d : D), D.wid m n d = true → D.ok n d = true := by
  intro n
  induction n with
  | zero => intro d h; cases d <;> first | rfl | exact h | cases h
  | succ n ih =>
    intro d h
    cases d with
    | tup ds =>
      rw [D.wid, Bool.and_eq_true] at h
      exact List.all_eq_true.mpr fun x hx => ih x (List.all_eq_true.mp h.2 x hx)
    | lst ds =>
      rw [D.wid, Bool.and_eq_true] at h
      exact List.all_eq_true.mpr fun x hx => ih x (List.all_eq_true.mp h.2 x hx)
    | non => rfl
    | bl b => rfl
    | int i => rfl
    | str x => exact h
    | _ => cases h
theorem wid_mono {m m' : Nat} (hm : m ≤ m') : ∀ (n n' : Nat) (d : D), n ≤ n' → D.wid m n d = true → D.wid m' n' d = true := by
  intro n
  induction n with
  | zero =>
    intro n' d _ h
    cases d <;> first
      | (cases h; done)
      | (cases n' <;> first | rfl | exact h)
  | succ n ih =>
    intro n' d hn h
    obtain ⟨n', rfl⟩ : ∃ k, n' = k + 1 := ⟨n' - 1, by omega⟩
    cases d with
    | tup ds =>
      rw [D.wid, Bool.and_eq_true, decide_eq_true_eq] at h ⊢
      exact ⟨by omega, List.all_eq_true.mpr fun x hx => ih n' x (by omega) (List.all_eq_true.mp h.2 x hx)⟩
    | lst ds =>
      rw [D.wid, Bool.and_eq_true, decide_eq_true_eq] at h ⊢
      exact ⟨by omega, List.all_eq_true.mpr fun x hx => ih n' x (by omega) (List.all_eq_true.mp h.2 x hx)⟩
    | non => rfl
    | bl b => rfl
    | int i => rfl
    | str x => exact h
    | _ => cases h
section
variable {A : Str → Addr} {s : Option Addr} {P : D → Prop} {PL : List D → Prop} {EP : Addr → Prop}
theorem q_any {a : Addr} (hs : s = some a) : ∀ (n : Nat) (deep : Int) (P : D → Prop) (EP : Addr → Prop), 0 ≤ deep → deep < n → (∀ v, D.wid 14 (deep.toNat + 1) v = true → P v) → r__law_any_value A n s [.ref a, .int deep] P EP := by
  intro n
  induction n with
  | zero => intro deep P EP h0 h1 _; omega
  | succ n ih =>
    intro deep P EP h0 h1 h
    show f__law_any_value A (r__law_any_value A n) s [.ref a, .int deep] P EP
    simp [f__law_any_value, N__law_any_value, t__law_any_value, e_bodyF, e_bodyN, e_szOk, e_tSize, e_tCl, e_tClN, e_tNF, e_tSc, e_tK, e_tN, e_tR, e_t2, e_tCh, e_tBl, e_tAndB, e_tOrB, e_tNotB, e_tBV, e_tAndD, e_tOrD, e_tNotD, e_tNeg, e_tIfE, e_tIfL, e_tA0, e_tA1, e_tTupD, e_tCD, e_tItl, e_tOwn, e_tIs, e_tIx, e_tO0, e_tO1, e_tSlL, e_tSlT, e_tRev, e_tCatL, e_tRepL, e_tCatT, e_tRepT, e_tTupI, e_tTupL, e_sqD, e_nxD, e_tFz, e_tEx, e_tRt, e_tRn, e_tRo, e_tSet, e_tSetN, e_tIf, e_tRs, e_tSetG, e_tForL, e_tRg1, e_tRg2, e_tWh, e_tApp, e_tStI, e_yesD, e_tLc, e_tM0, e_tMF, e_tMN, e_tMK, e_tMT, e_tPar2, e_tPar3, e_tJoin, e_tIsE, e_tRef, e_tSrcS, e_tSrcI, e_tSrcW, e_tIxO, startD, DE.set, rdS, D.ty, isTy, fLen, fAbs, fInt, fI, fI0, gN, gT, setAll, itemsX, wipeD, MI.slot, fzD, dIx]
    have simple : ∀ d ∈ [D.non, .bl true, .bl false, .int 0, .int 1, .int 2, .int (-3), .int 11, .str "", .str "5 -2", .tup [], .lst [], .tup [.int 5], .tup [.int 5, .int (-2)]], P d := fun d hd => h d (by
      simp only [List.mem_cons, List.not_mem_nil, or_false] at hd
      rcases hd with e | e | e | e | e | e | e | e | e | e | e | e | e | e <;> subst e <;> first
        | rfl
        | (simp [D.wid]; done)
        | (simp [D.wid]; decide +kernel))
    refine q_pick hs (by omega) (by omega) fun i hi hi2 => ?_
    by_cases c1 : deep < 1
    · rw [decide_eq_true c1]
      exact q_chosen hs (.inl rfl) (by simp) (by simp) simple
    · rw [decide_eq_false c1]
      show (match decide (i < 5) with | true => _ | false => _)
      by_cases c2 : i < 5
      · rw [decide_eq_true c2]
        exact q_chosen hs (.inl rfl) (by simp) (by simp) simple
      · rw [decide_eq_false c2]
        refine q_pick hs (by omega) (by omega) fun j hj hj2 => ?_
        refine ⟨⟨by omega, by omega⟩, by rw [rgD_len]; omega, comp_any (fun v => D.wid 14 deep.toNat v = true) _ _ (fun x hx Q hQ => ?_) fun ys hl hys => ?_⟩
        · show r__law_any_value A n s [.ref a, .int (deep - 1)] Q noEx
          refine ih (deep - 1) Q noEx (by omega) (by omega) fun v hv => hQ v ?_
          rw [show (deep - 1).toNat + 1 = deep.toNat from by omega] at hv
          exact hv
        · rw [rgD_len] at hl
          have hw : (decide (ys.length ≤ 14) && ys.all (D.wid 14 deep.toNat)) = true := by
            rw [decide_eq_true (by omega), List.all_eq_true.mpr hys] <;> rfl
          rw [List.nil_append]
          refine dEq_ok (neg := false) ok_int ok_int ?_
          rw [eqB_int]
          show (match (i == 5) with | true => _ | false => _)
          cases i == 5 with
          | true => exact h _ hw
          | false => exact h _ hw
theorem wid_tup {m n : Nat} {ds : List D} (h1 : ds.length ≤ m) (h2 : ∀ x ∈ ds, D.wid m n x = true) : D.wid m (n + 1) (.tup ds) = true := by
  rw [D.wid, decide_eq_true h1, List.all_eq_true.mpr h2] <;> rfl
theorem wid_lst {m n : Nat} {ds : List D} (h1 : ds.length ≤ m) (h2 : ∀ x ∈ ds, D.wid m n x = true) : D.wid m (n + 1) (.lst ds) = true := by
  rw [D.wid, decide_eq_true h1, List.all_eq_true.mpr h2] <;> rfl
theorem wid_inv {m n : Nat} {ds : List D} (h : D.wid m (n + 1) (.tup ds) = true) : ds.length ≤ m ∧ ∀ x ∈ ds, D.wid m n x = true := by
  rw [D.wid, Bool.and_eq_true, decide_eq_true_eq] at h
  exact ⟨h.1, List.all_eq_true.mp h.2⟩
theorem cut_mem {ds : List D} {lo hi : Option Int} {x : D} (h : x ∈ cutD ds lo hi) : x ∈ ds := List.mem_of_mem_drop (List.mem_of_mem_take h)
theorem cut_len {ds : List D} {lo hi : Option Int} : (cutD ds lo hi).length ≤ ds.length := by
  unfold cutD
  rw [List.length_take, List.length_drop]
  omega
abbrev vZ (s : Option Addr) (P : D → Prop) (EP : Addr → Prop) : DEnds := { nx := fun δ' => δ'.s = s ∧ P .non, rt := fun s' d => s' = s ∧ P d, rn := fun s' ds => s' = s ∧ P (.lst ds), ex := fun s' c => s' = s ∧ EP c }
abbrev vE (s : Option Addr) (a : Addr) (ds : List D) (deep i w : Int) (inner : D) (o : Slot) (parts : List D) : DE := ⟨s, [.d (.ref a), .d (.tup ds), .d (.int deep), .ow parts, .d (.int i), .d (.int w), .d inner, o]⟩
section
variable {a : Addr} {ds parts : List D} {deep i w : Int} {inner : D} {o : Slot} {φ : Fn} {m d : Nat}
theorem v10 (h : P (.tup parts)) : b10__law_variant A φ (vE s a ds deep i w inner o parts) (vZ s P EP) := by
  simp [b10__law_variant, e_bodyF, e_bodyN, e_szOk, e_tSize, e_tCl, e_tClN, e_tNF, e_tSc, e_tK, e_tN, e_tR, e_t2, e_tCh, e_tBl, e_tAndB, e_tOrB, e_tNotB, e_tBV, e_tAndD, e_tOrD, e_tNotD, e_tNeg, e_tIfE, e_tIfL, e_tA0, e_tA1, e_tTupD, e_tCD, e_tItl, e_tOwn, e_tIs, e_tIx, e_tO0, e_tO1, e_tSlL, e_tSlT, e_tRev, e_tCatL, e_tRepL, e_tCatT, e_tRepT, e_tTupI, e_tTupL, e_sqD, e_nxD, e_tFz, e_tEx, e_tRt, e_tRn, e_tRo, e_tSet, e_tSetN, e_tIf, e_tRs, e_tSetG, e_tForL, e_tRg1, e_tRg2, e_tWh, e_tApp, e_tStI, e_yesD, e_tLc, e_tM0, e_tMF, e_tMN, e_tMK, e_tMT, e_tPar2, e_tPar3, e_tJoin, e_tIsE, e_tRef, e_tSrcS, e_tSrcI, e_tSrcW, e_tIxO, startD, DE.set, rdS, D.ty, isTy, fLen, fAbs, fInt, fI, fI0, gN, gT, setAll, itemsX, wipeD, MI.slot, fzD, dIx]
  exact h
theorem v9 (hs : s = some a) (hm : 14 ≤ m) (h0 : 0 ≤ i) (hi : i < ds.length) (hl : ds.length ≤ m) (hx : ∀ x ∈ ds, D.wid m d x = true) (h : ∀ v, D.wid (3 * m + 1) (d + 4) v = true → P v) : b9__law_variant A φ (vE s a ds deep i w inner o ds) (vZ s P EP) := by
  have hix : ixN ds.length i = some i.toNat := by unfold ixN; rw [if_pos h0, if_pos hi]
  have fin : ∀ v o', D.wid (3 * m + 1) (d + 3) v = true → b10__law_variant A φ (vE s a ds deep i w inner o' (ds.set i.toNat v)) (vZ s P EP) := fun v o' hv => v10 (h _ (wid_tup (by rw [List.length_set]; omega) fun x hx2 => by
    rcases List.mem_or_eq_of_mem_set hx2 with q | q
    · exact wid_mono (by omega) _ _ x (by omega) (hx x q)
    · rw [q]
      exact hv))
  simp [b9__law_variant, e_bodyF, e_bodyN, e_szOk, e_tSize, e_tCl, e_tClN, e_tNF, e_tSc, e_tK, e_tN, e_tR, e_t2, e_tCh, e_tBl, e_tAndB, e_tOrB, e_tNotB, e_tBV, e_tAndD, e_tOrD, e_tNotD, e_tNeg, e_tIfE, e_tIfL, e_tA0, e_tA1, e_tTupD, e_tCD, e_tItl, e_tOwn, e_tIs, e_tIx, e_tO0, e_tO1, e_tSlL, e_tSlT, e_tRev, e_tCatL, e_tRepL, e_tCatT, e_tRepT, e_tTupI, e_tTupL, e_sqD, e_nxD, e_tFz, e_tEx, e_tRt, e_tRn, e_tRo, e_tSet, e_tSetN, e_tIf, e_tRs, e_tSetG, e_tForL, e_tRg1, e_tRg2, e_tWh, e_tApp, e_tStI, e_yesD, e_tLc, e_tM0, e_tMF, e_tMN, e_tMK, e_tMT, e_tPar2, e_tPar3, e_tJoin, e_tIsE, e_tRef, e_tSrcS, e_tSrcI, e_tSrcW, e_tIxO, startD, DE.set, rdS, D.ty, isTy, fLen, fAbs, fInt, fI, fI0, gN, gT, setAll, itemsX, wipeD, MI.slot, fzD, dIx, hix]
  by_cases c : w < 6
  · rw [decide_eq_true c]
    exact q_any hs 4 2 _ _ (by omega) (by omega) fun v hv => fin v o (wid_mono (by omega) _ _ v (by show 3 ≤ d + 3; omega) hv)
  · rw [decide_eq_false c]
    refine q_chosen hs (.inl rfl) (by simp) (by simp) fun v hv => fin v _ ?_
    simp only [List.mem_cons, List.not_mem_nil, or_false] at hv
    rcases hv with e | e | e | e | e | e | e | e | e | e | e | e | e | e <;> subst e <;> first
      | rfl
      | (simp [D.wid]; done)
      | (simp [D.wid]; decide +kernel)
/-- a tuple whose items are allowed -/
theorem out_tup {xs : List D} (hl : xs.length ≤ 3 * m + 1) (hx : ∀ x ∈ xs, D.wid (3 * m + 1) (d + 3) x = true) (h : ∀ v, D.wid (3 * m + 1) (d + 4) v = true → P v) : P (.tup xs) := h _ (wid_tup hl hx)
theorem v8 (hs : s = some a) (hm : 14 ≤ m) (h0 : 0 ≤ i) (hi : i < ds.length) (hl : ds.length ≤ m) (hx : ∀ x ∈ ds, D.wid m d x = true) (h : ∀ v, D.wid (3 * m + 1) (d + 4) v = true → P v) : b8__law_variant A φ (vE s a ds deep i w inner o ds) (vZ s P EP) := by
  simp [b8__law_variant, e_bodyF, e_bodyN, e_szOk, e_tSize, e_tCl, e_tClN, e_tNF, e_tSc, e_tK, e_tN, e_tR, e_t2, e_tCh, e_tBl, e_tAndB, e_tOrB, e_tNotB, e_tBV, e_tAndD, e_tOrD, e_tNotD, e_tNeg, e_tIfE, e_tIfL, e_tA0, e_tA1, e_tTupD, e_tCD, e_tItl, e_tOwn, e_tIs, e_tIx, e_tO0, e_tO1, e_tSlL, e_tSlT, e_tRev, e_tCatL, e_tRepL, e_tCatT, e_tRepT, e_tTupI, e_tTupL, e_sqD, e_nxD, e_tFz, e_tEx, e_tRt, e_tRn, e_tRo, e_tSet, e_tSetN, e_tIf, e_tRs, e_tSetG, e_tForL, e_tRg1, e_tRg2, e_tWh, e_tApp, e_tStI, e_yesD, e_tLc, e_tM0, e_tMF, e_tMN, e_tMK, e_tMT, e_tPar2, e_tPar3, e_tJoin, e_tIsE, e_tRef, e_tSrcS, e_tSrcI, e_tSrcW, e_tIxO, startD, DE.set, rdS, D.ty, isTy, fLen, fAbs, fInt, fI, fI0, gN, gT, setAll, itemsX, wipeD, MI.slot, fzD, dIx]
  refine dEq_ok (neg := false) ok_int ok_int ?_
  rw [eqB_int]
  show (match (w == 3) with | true => _ | false => _)
  cases w == 3 with
  | true => exact h _ (wid_lst (by omega) fun x q => wid_mono (by omega) _ _ x (by omega) (hx x q))
  | false => exact v9 hs hm h0 hi hl hx h
theorem v7 (hs : s = some a) (hm : 14 ≤ m) (hm2 : m ≤ 1000) (h0 : 0 ≤ i) (hi : i < ds.length) (hl : ds.length ≤ m) (hx : ∀ x ∈ ds, D.wid m d x = true) (h : ∀ v, D.wid (3 * m + 1) (d + 4) v = true → P v) : b7__law_variant A φ (vE s a ds deep i w inner o ds) (vZ s P EP) := by
  have up : ∀ x ∈ ds, D.wid (3 * m + 1) (d + 3) x = true := fun x q => wid_mono (by omega) _ _ x (by omega) (hx x q)
  simp [b7__law_variant, e_bodyF, e_bodyN, e_szOk, e_tSize, e_tCl, e_tClN, e_tNF, e_tSc, e_tK, e_tN, e_tR, e_t2, e_tCh, e_tBl, e_tAndB, e_tOrB, e_tNotB, e_tBV, e_tAndD, e_tOrD, e_tNotD, e_tNeg, e_tIfE, e_tIfL, e_tA0, e_tA1, e_tTupD, e_tCD, e_tItl, e_tOwn, e_tIs, e_tIx, e_tO0, e_tO1, e_tSlL, e_tSlT, e_tRev, e_tCatL, e_tRepL, e_tCatT, e_tRepT, e_tTupI, e_tTupL, e_sqD, e_nxD, e_tFz, e_tEx, e_tRt, e_tRn, e_tRo, e_tSet, e_tSetN, e_tIf, e_tRs, e_tSetG, e_tForL, e_tRg1, e_tRg2, e_tWh, e_tApp, e_tStI, e_yesD, e_tLc, e_tM0, e_tMF, e_tMN, e_tMK, e_tMT, e_tPar2, e_tPar3, e_tJoin, e_tIsE, e_tRef, e_tSrcS, e_tSrcI, e_tSrcW, e_tIxO, startD, DE.set, rdS, D.ty, isTy, fLen, fAbs, fInt, fI, fI0, gN, gT, setAll, itemsX, wipeD, MI.slot, fzD, dIx]
  refine dEq_ok (neg := false) ok_int ok_int ?_
  rw [eqB_int]
  show (match (w == 2) with | true => _ | false => _)
  have l1 := cut_len (ds := ds) (lo := none) (hi := some i)
  have l2 := cut_len (ds := ds) (lo := some i) (hi := some (i + 2))
  have l3 := cut_len (ds := ds) (lo := some (i + 2)) (hi := none)
  cases w == 2 with
  | true =>
    refine ⟨by omega, by omega, out_tup (by simp; omega) (fun x q => ?_) h⟩
    simp only [List.mem_append, List.mem_reverse] at q
    rcases q with q | q | q <;> exact up x (cut_mem q)
  | false => exact v8 hs hm h0 hi hl hx h
theorem v6 (hs : s = some a) (hm : 14 ≤ m) (hm2 : m ≤ 1000) (h0 : 0 ≤ i) (hi : i < ds.length) (hl : ds.length ≤ m) (hx : ∀ x ∈ ds, D.wid m d x = true) (h : ∀ v, D.wid (3 * m + 1) (d + 4) v = true → P v) : b6__law_variant A φ (vE s a ds deep i w inner o ds) (vZ s P EP) := by
  have up : ∀ x ∈ ds, D.wid (3 * m + 1) (d + 3) x = true := fun x q => wid_mono (by omega) _ _ x (by omega) (hx x q)
  simp [b6__law_variant, e_bodyF, e_bodyN, e_szOk, e_tSize, e_tCl, e_tClN, e_tNF, e_tSc, e_tK, e_tN, e_tR, e_t2, e_tCh, e_tBl, e_tAndB, e_tOrB, e_tNotB, e_tBV, e_tAndD, e_tOrD, e_tNotD, e_tNeg, e_tIfE, e_tIfL, e_tA0, e_tA1, e_tTupD, e_tCD, e_tItl, e_tOwn, e_tIs, e_tIx, e_tO0, e_tO1, e_tSlL, e_tSlT, e_tRev, e_tCatL, e_tRepL, e_tCatT, e_tRepT, e_tTupI, e_tTupL, e_sqD, e_nxD, e_tFz, e_tEx, e_tRt, e_tRn, e_tRo, e_tSet, e_tSetN, e_tIf, e_tRs, e_tSetG, e_tForL, e_tRg1, e_tRg2, e_tWh, e_tApp, e_tStI, e_yesD, e_tLc, e_tM0, e_tMF, e_tMN, e_tMK, e_tMT, e_tPar2, e_tPar3, e_tJoin, e_tIsE, e_tRef, e_tSrcS, e_tSrcI, e_tSrcW, e_tIxO, startD, DE.set, rdS, D.ty, isTy, fLen, fAbs, fInt, fI, fI0, gN, gT, setAll, itemsX, wipeD, MI.slot, fzD, dIx]
  refine dEq_ok (neg := false) ok_int ok_int ?_
  rw [eqB_int]
  show (match (w == 1) with | true => _ | false => _)
  have l1 := cut_len (ds := ds) (lo := none) (hi := some (i + 1))
  have l2 := cut_len (ds := ds) (lo := some i) (hi := none)
  cases w == 1 with
  | true =>
    refine ⟨by omega, out_tup (by simp; omega) (fun x q => ?_) h⟩
    simp only [List.mem_append] at q
    rcases q with q | q <;> exact up x (cut_mem q)
  | false => exact v7 hs hm hm2 h0 hi hl hx h
theorem v5 (hs : s = some a) (hm : 14 ≤ m) (hm2 : m ≤ 1000) (h0 : 0 ≤ i) (hi : i < ds.length) (hl : ds.length ≤ m) (hx : ∀ x ∈ ds, D.wid m d x = true) (h : ∀ v, D.wid (3 * m + 1) (d + 4) v = true → P v) : b5__law_variant A φ (vE s a ds deep i w inner o ds) (vZ s P EP) := by
  have up : ∀ x ∈ ds, D.wid (3 * m + 1) (d + 3) x = true := fun x q => wid_mono (by omega) _ _ x (by omega) (hx x q)
  simp [b5__law_variant, e_bodyF, e_bodyN, e_szOk, e_tSize, e_tCl, e_tClN, e_tNF, e_tSc, e_tK, e_tN, e_tR, e_t2, e_tCh, e_tBl, e_tAndB, e_tOrB, e_tNotB, e_tBV, e_tAndD, e_tOrD, e_tNotD, e_tNeg, e_tIfE, e_tIfL, e_tA0, e_tA1, e_tTupD, e_tCD, e_tItl, e_tOwn, e_tIs, e_tIx, e_tO0, e_tO1, e_tSlL, e_tSlT, e_tRev, e_tCatL, e_tRepL, e_tCatT, e_tRepT, e_tTupI, e_tTupL, e_sqD, e_nxD, e_tFz, e_tEx, e_tRt, e_tRn, e_tRo, e_tSet, e_tSetN, e_tIf, e_tRs, e_tSetG, e_tForL, e_tRg1, e_tRg2, e_tWh, e_tApp, e_tStI, e_yesD, e_tLc, e_tM0, e_tMF, e_tMN, e_tMK, e_tMT, e_tPar2, e_tPar3, e_tJoin, e_tIsE, e_tRef, e_tSrcS, e_tSrcI, e_tSrcW, e_tIxO, startD, DE.set, rdS, D.ty, isTy, fLen, fAbs, fInt, fI, fI0, gN, gT, setAll, itemsX, wipeD, MI.slot, fzD, dIx]
  refine dEq_ok (neg := false) ok_int ok_int ?_
  rw [eqB_int]
  show (match (w == 0) with | true => _ | false => _)
  have l1 := cut_len (ds := ds) (lo := none) (hi := some i)
  have l2 := cut_len (ds := ds) (lo := some (i + 1)) (hi := none)
  cases w == 0 with
  | true =>
    refine ⟨by omega, out_tup (by simp; omega) (fun x q => ?_) h⟩
    simp only [List.mem_append] at q
    rcases q with q | q <;> exact up x (cut_mem q)
  | false => exact v6 hs hm hm2 h0 hi hl hx h
theorem v4 (hs : s = some a) (hm : 14 ≤ m) (hm2 : m ≤ 1000) (h0 : 0 ≤ i) (hi : i < ds.length) (hl : ds.length ≤ m) (hx : ∀ x ∈ ds, D.wid m d x = true) (hin : D.wid m d inner = true) (h : ∀ v, D.wid (3 * m + 1) (d + 4) v = true → P v)
    (hφ : 0 < deep → ∀ (es : List D) (d' : Nat) (P : D → Prop) (EP : Addr → Prop), d = d' + 1 → D.wid m (d' + 1) (.tup es) = true → (∀ v, D.wid (3 * m + 1) (d' + 4) v = true → P v) → φ s [.ref a, .tup es, .int (deep - 1)] P EP) : b4__law_variant A φ (vE s a ds deep i w inner o ds) (vZ s P EP) := by
  have up : ∀ x ∈ ds, D.wid (3 * m + 1) (d + 3) x = true := fun x q => wid_mono (by omega) _ _ x (by omega) (hx x q)
  have nx := v5 (A := A) (EP := EP) (o := o) (inner := inner) (w := w) (deep := deep) (φ := φ) hs hm hm2 h0 hi hl hx h
  have l1 := cut_len (ds := ds) (lo := none) (hi := some i)
  have l2 := cut_len (ds := ds) (lo := some (i + 1)) (hi := none)
  cases inner with
  | tup es =>
    obtain ⟨d', rfl⟩ : ∃ d', d = d' + 1 := by
      cases d with
      | zero => cases hin
      | succ d' => exact ⟨d', rfl⟩
    by_cases c1 : 0 < deep
    · by_cases c2 : 2 < w
      · simp [b4__law_variant, e_bodyF, e_bodyN, e_szOk, e_tSize, e_tCl, e_tClN, e_tNF, e_tSc, e_tK, e_tN, e_tR, e_t2, e_tCh, e_tBl, e_tAndB, e_tOrB, e_tNotB, e_tBV, e_tAndD, e_tOrD, e_tNotD, e_tNeg, e_tIfE, e_tIfL, e_tA0, e_tA1, e_tTupD, e_tCD, e_tItl, e_tOwn, e_tIs, e_tIx, e_tO0, e_tO1, e_tSlL, e_tSlT, e_tRev, e_tCatL, e_tRepL, e_tCatT, e_tRepT, e_tTupI, e_tTupL, e_sqD, e_nxD, e_tFz, e_tEx, e_tRt, e_tRn, e_tRo, e_tSet, e_tSetN, e_tIf, e_tRs, e_tSetG, e_tForL, e_tRg1, e_tRg2, e_tWh, e_tApp, e_tStI, e_yesD, e_tLc, e_tM0, e_tMF, e_tMN, e_tMK, e_tMT, e_tPar2, e_tPar3, e_tJoin, e_tIsE, e_tRef, e_tSrcS, e_tSrcI, e_tSrcW, e_tIxO, startD, DE.set, rdS, D.ty, isTy, fLen, fAbs, fInt, fI, fI0, gN, gT, setAll, itemsX, wipeD, MI.slot, fzD, dIx, c1, c2]
        refine hφ c1 es d' _ _ rfl hin fun v hv => ⟨by omega, by omega, out_tup (by simp; omega) (fun x q => ?_) h⟩
        simp only [List.mem_append, List.mem_cons] at q
        rcases q with q | q | q
        · exact up x (cut_mem q)
        · rw [q]
          exact wid_mono (by omega) _ _ v (by omega) hv
        · exact up x (cut_mem q)
      · simp [b4__law_variant, e_bodyF, e_bodyN, e_szOk, e_tSize, e_tCl, e_tClN, e_tNF, e_tSc, e_tK, e_tN, e_tR, e_t2, e_tCh, e_tBl, e_tAndB, e_tOrB, e_tNotB, e_tBV, e_tAndD, e_tOrD, e_tNotD, e_tNeg, e_tIfE, e_tIfL, e_tA0, e_tA1, e_tTupD, e_tCD, e_tItl, e_tOwn, e_tIs, e_tIx, e_tO0, e_tO1, e_tSlL, e_tSlT, e_tRev, e_tCatL, e_tRepL, e_tCatT, e_tRepT, e_tTupI, e_tTupL, e_sqD, e_nxD, e_tFz, e_tEx, e_tRt, e_tRn, e_tRo, e_tSet, e_tSetN, e_tIf, e_tRs, e_tSetG, e_tForL, e_tRg1, e_tRg2, e_tWh, e_tApp, e_tStI, e_yesD, e_tLc, e_tM0, e_tMF, e_tMN, e_tMK, e_tMT, e_tPar2, e_tPar3, e_tJoin, e_tIsE, e_tRef, e_tSrcS, e_tSrcI, e_tSrcW, e_tIxO, startD, DE.set, rdS, D.ty, isTy, fLen, fAbs, fInt, fI, fI0, gN, gT, setAll, itemsX, wipeD, MI.slot, fzD, dIx, c1, c2]
        exact nx
    · simp [b4__law_variant, e_bodyF, e_bodyN, e_szOk, e_tSize, e_tCl, e_tClN, e_tNF, e_tSc, e_tK, e_tN, e_tR, e_t2, e_tCh, e_tBl, e_tAndB, e_tOrB, e_tNotB, e_tBV, e_tAndD, e_tOrD, e_tNotD, e_tNeg, e_tIfE, e_tIfL, e_tA0, e_tA1, e_tTupD, e_tCD, e_tItl, e_tOwn, e_tIs, e_tIx, e_tO0, e_tO1, e_tSlL, e_tSlT, e_tRev, e_tCatL, e_tRepL, e_tCatT, e_tRepT, e_tTupI, e_tTupL, e_sqD, e_nxD, e_tFz, e_tEx, e_tRt, e_tRn, e_tRo, e_tSet, e_tSetN, e_tIf, e_tRs, e_tSetG, e_tForL, e_tRg1, e_tRg2, e_tWh, e_tApp, e_tStI, e_yesD, e_tLc, e_tM0, e_tMF, e_tMN, e_tMK, e_tMT, e_tPar2, e_tPar3, e_tJoin, e_tIsE, e_tRef, e_tSrcS, e_tSrcI, e_tSrcW, e_tIxO, startD, DE.set, rdS, D.ty, isTy, fLen, fAbs, fInt, fI, fI0, gN, gT, setAll, itemsX, wipeD, MI.slot, fzD, dIx, c1]
      exact nx
  | _ => first
    | (cases d <;> cases hin; done)
    | (simp [b4__law_variant, e_bodyF, e_bodyN, e_szOk, e_tSize, e_tCl, e_tClN, e_tNF, e_tSc, e_tK, e_tN, e_tR, e_t2, e_tCh, e_tBl, e_tAndB, e_tOrB, e_tNotB, e_tBV, e_tAndD, e_tOrD, e_tNotD, e_tNeg, e_tIfE, e_tIfL, e_tA0, e_tA1, e_tTupD, e_tCD, e_tItl, e_tOwn, e_tIs, e_tIx, e_tO0, e_tO1, e_tSlL, e_tSlT, e_tRev, e_tCatL, e_tRepL, e_tCatT, e_tRepT, e_tTupI, e_tTupL, e_sqD, e_nxD, e_tFz, e_tEx, e_tRt, e_tRn, e_tRo, e_tSet, e_tSetN, e_tIf, e_tRs, e_tSetG, e_tForL, e_tRg1, e_tRg2, e_tWh, e_tApp, e_tStI, e_yesD, e_tLc, e_tM0, e_tMF, e_tMN, e_tMK, e_tMT, e_tPar2, e_tPar3, e_tJoin, e_tIsE, e_tRef, e_tSrcS, e_tSrcI, e_tSrcW, e_tIxO, startD, DE.set, rdS, D.ty, isTy, fLen, fAbs, fInt, fI, fI0, gN, gT, setAll, itemsX, wipeD, MI.slot, fzD, dIx]; exact nx)
end
theorem q_variant {a : Addr} (hs : s = some a) : ∀ (n : Nat) (deep : Int) (m d : Nat) (ds : List D) (P : D → Prop) (EP : Addr → Prop), 0 ≤ deep → deep < n → 14 ≤ m → m ≤ 1000 → d ≤ 60 → D.wid m (d + 1) (.tup ds) = true → (∀ v, D.wid (3 * m + 1) (d + 4) v = true → P v) → r__law_variant A n s [.ref a, .tup ds, .int deep] P EP := by
  intro n
  induction n with
  | zero => intro deep m d ds P EP h0 h1; omega
  | succ n ih =>
    intro deep m d ds P EP h0 h1 hm hm2 hd60 hw h
    obtain ⟨hl, hx⟩ := wid_inv hw
    show f__law_variant A (r__law_variant A n) s [.ref a, .tup ds, .int deep] P EP
    have ok : ds.all (D.ok 63) = true → D.ok 64 (.lst ds) = true := fun q => q
    simp [f__law_variant, N__law_variant, t__law_variant, b0__law_variant, b1__law_variant, b2__law_variant, b3__law_variant, e_bodyF, e_bodyN, e_szOk, e_tSize, e_tCl, e_tClN, e_tNF, e_tSc, e_tK, e_tN, e_tR, e_t2, e_tCh, e_tBl, e_tAndB, e_tOrB, e_tNotB, e_tBV, e_tAndD, e_tOrD, e_tNotD, e_tNeg, e_tIfE, e_tIfL, e_tA0, e_tA1, e_tTupD, e_tCD, e_tItl, e_tOwn, e_tIs, e_tIx, e_tO0, e_tO1, e_tSlL, e_tSlT, e_tRev, e_tCatL, e_tRepL, e_tCatT, e_tRepT, e_tTupI, e_tTupL, e_sqD, e_nxD, e_tFz, e_tEx, e_tRt, e_tRn, e_tRo, e_tSet, e_tSetN, e_tIf, e_tRs, e_tSetG, e_tForL, e_tRg1, e_tRg2, e_tWh, e_tApp, e_tStI, e_yesD, e_tLc, e_tM0, e_tMF, e_tMN, e_tMK, e_tMT, e_tPar2, e_tPar3, e_tJoin, e_tIsE, e_tRef, e_tSrcS, e_tSrcI, e_tSrcW, e_tIxO, startD, DE.set, rdS, D.ty, isTy, fLen, fAbs, fInt, fI, fI0, gN, gT, setAll, itemsX, wipeD, MI.slot, fzD, dIx]
    have ok63 : ds.all (D.ok 63) = true → True := fun _ => trivial
    by_cases hd : d ≤ 60
    · have okd : ds.all (D.ok 63) = true := List.all_eq_true.mpr fun x q => D.ok_mono d 63 x (by omega) (wid_ok d x (hx x q))
      refine dEq_ok (neg := false) (x := .lst ds) (y := .lst []) okd rfl ?_
      rw [eqB_nil ds okd]
      show (match ds.isEmpty with | true => _ | false => _)
      cases ds with
      | nil =>
        refine q_any hs 4 1 _ _ (by omega) (by omega) fun v hv => h _ (wid_tup (by simp) fun x q => ?_)
        rw [List.mem_singleton] at q
        rw [q]
        exact wid_mono (by omega) _ _ v (by show 2 ≤ d + 3; omega) hv
      | cons e es =>
        have hp : (0 : Int) < ((e :: es).length : Int) := by rw [List.length_cons]; omega
        have hp2 : ((e :: es).length : Int) < 1073741824 := by omega
        refine q_pick hs hp hp2 fun i hi hi2 => q_pick hs (by omega) (by omega) fun w hw1 hw2 => ?_
        have hl2 : i.toNat < (e :: es).length := by omega
        show (match L2.atI (e :: es) i with | some d_2 => _ | none => False)
        rw [atI_nat hi hi2, List.getElem?_eq_getElem hl2]
        refine v4 hs hm hm2 hi hi2 hl hx (hx _ (List.getElem_mem hl2)) h fun c1 es d' P EP e1 hw' h' => ?_
        subst e1
        exact ih (deep - 1) m d' es P EP (by omega) (by omega) hm hm2 (by omega) hw' h'
    · exact absurd hd60 hd
end
end Wn

set_option Elab.async false
set_option linter.all false
set_option maxRecDepth 100000
set_option maxHeartbeats 400000
namespace Wn
open PySem PySem.Spec PyProof.Rows L2
theorem all_not_any {α : Type} : ∀ (l : List α) (p q : α → Bool), (∀ x ∈ l, p x = !q x) → l.all p = !l.any q
  | [], _, _, _ => rfl
  | x :: r, p, q, h => by
    rw [List.all_cons, List.any_cons, h x List.mem_cons_self, all_not_any r p q fun y hy => h y (List.mem_cons_of_mem _ hy), Bool.not_or]
theorem i_dAdd {i j : Int} {P : D → Prop} (h : P (.int (i + j))) : dAdd (.int i) (.int j) P := h
theorem i_dMul {i j : Int} {P : D → Prop} (h1 : CMul i j) (h : P (.int (i * j))) : dMul (.int i) (.int j) P := ⟨h1, h⟩
def bT : D → Bool
  | .tup [_, .bl k] => k
  | _ => false
def fT : D → D
  | .tup [w, _] => w
  | _ => .non
def dT2 (i j : Nat) (δ : DE) : D → DE
  | .tup [w, k] => (δ.set i (.d w)).set j (.d k)
  | _ => δ
/-- [word for word, good in pairs if good] -/
theorem comp_words {δ : DE} {P : List D → Prop} {xs : List D} (hs : δ.sl.length = 4) (hx : ∀ x ∈ xs, ∃ w k, x = .tup [.str w, .bl k]) (h : P ((xs.filter bT).map fT)) : compD (gT [2, 3]) (tBl (tR 3)) (tN 2) δ P xs [] := by
  obtain ⟨s, sl⟩ := δ
  match sl, hs with
  | [o1, o2, o3, o4], _ =>
    refine comp_gen (dT2 2 3 ⟨s, [o1, o2, o3, o4]⟩) bT fT xs [] (fun x q Q hQ => ?_) (fun x q Q hQ => ?_) (fun x q hb Q hQ => ?_) h
    · obtain ⟨w, k, e⟩ := hx x q
      subst e
      exact hQ
    · obtain ⟨w, k, e⟩ := hx x q
      subst e
      exact hQ
    · obtain ⟨w, k, e⟩ := hx x q
      subst e
      exact hQ
section
variable {A : Str → Addr} {s : Option Addr} {P : D → Prop} {PL : List D → Prop} {EP : Addr → Prop}
theorem q_good {v : D} (hv : D.ok 64 v = true) (h : P (.bl (scriptB v))) : f__law_good A s [v] P EP := by
  simp [f__law_good, N__law_good, t__law_good, e_bodyF, e_bodyN, e_szOk, e_tSize, e_tCl, e_tClN, e_tNF, e_tSc, e_tK, e_tN, e_tR, e_t2, e_tCh, e_tBl, e_tAndB, e_tOrB, e_tNotB, e_tBV, e_tAndD, e_tOrD, e_tNotD, e_tNeg, e_tIfE, e_tIfL, e_tA0, e_tA1, e_tTupD, e_tCD, e_tItl, e_tOwn, e_tIs, e_tIx, e_tO0, e_tO1, e_tSlL, e_tSlT, e_tRev, e_tCatL, e_tRepL, e_tCatT, e_tRepT, e_tTupI, e_tTupL, e_sqD, e_nxD, e_tFz, e_tEx, e_tRt, e_tRn, e_tRo, e_tSet, e_tSetN, e_tIf, e_tRs, e_tSetG, e_tForL, e_tRg1, e_tRg2, e_tWh, e_tApp, e_tStI, e_yesD, e_tLc, e_tM0, e_tMF, e_tMN, e_tMK, e_tMT, e_tPar2, e_tPar3, e_tJoin, e_tIsE, e_tRef, e_tSrcS, e_tSrcI, e_tSrcW, e_tIxO, startD, DE.set, rdS, D.ty, isTy, fLen, fAbs, fInt, fI, fI0, gN, gT, setAll, itemsX, wipeD, MI.slot, fzD, dIx]
  refine q_wide hv ?_
  cases hw : wideB v 1 5 with
  | false =>
    have e : scriptB v = false := by
      cases v with
      | tup ds =>
        rw [scriptB_e]
        have hw : (decide ((1 : Int) ≤ (ds.length : Int)) && decide ((ds.length : Int) ≤ 5)) = false := hw
        rw [hw] <;> rfl
      | _ => rfl
    rw [e] at h
    exact h
  | true =>
    cases v with
    | tup ds =>
      rw [scriptB_e] at h
      have hw : (decide ((1 : Int) ≤ (ds.length : Int)) && decide ((ds.length : Int) ≤ 5)) = true := hw
      rw [hw] at h
      rw [Bool.and_eq_true, decide_eq_true_eq, decide_eq_true_eq] at hw
      have hd : ∀ d ∈ ds, D.ok 63 d = true := fun d q => List.all_eq_true.mp (show ds.all (D.ok 63) = true from hv) d q
      refine ⟨by omega, comp_fil (fun x => !whole x (-11) 11) id _ _ (fun x hx Q hQ => ?_) (fun x hx hb Q hQ => hQ) ?_⟩
      · show f__law_whole A s [x, .int (-11), .int 11] _ _
        exact q_whole (D.ok_ty (hd x hx)) hQ
      · rw [List.nil_append, List.map_id]
        have okf : (ds.filter fun x => !whole x (-11) 11).all (D.ok 63) = true := List.all_eq_true.mpr fun x q => hd x (List.mem_filter.mp q).1
        refine dEq_ok (neg := true) (x := .lst _) (y := .lst []) okf rfl ?_
        rw [eqB_nil _ okf]
        cases q : ds.all fun x => whole x (-11) 11 with
        | false =>
          have e1 : (ds.filter fun x => !whole x (-11) 11).isEmpty = false := by
            obtain ⟨x, hx, hx2⟩ := List.all_eq_false.mp q
            rw [List.isEmpty_eq_false_iff]
            exact List.ne_nil_of_mem (List.mem_filter.mpr ⟨hx, by simpa using hx2⟩)
          have e2 : ds.all stepB = false := by
            obtain ⟨x, hx, hx2⟩ := List.all_eq_false.mp q
            refine List.all_eq_false.mpr ⟨x, hx, fun z => hx2 ?_⟩
            unfold stepB at z
            exact (Bool.and_eq_true_iff.mp z).1
          rw [e1]
          rw [e2] at h
          exact h
        | true =>
          have q2 := List.all_eq_true.mp q
          have e1 : (ds.filter fun x => !whole x (-11) 11).isEmpty = true := by
            rw [List.isEmpty_iff, List.filter_eq_nil_iff]
            intro x hx
            rw [q2 x hx]
            simp
          rw [e1]
          have hi : ∀ d ∈ ds, d = .int (toI d) := fun d hd => (whole_int (q2 d hd)).1
          have e3 := ints_all ds hi
          generalize hns : ds.map toI = ns at e3
          subst e3
          have fl : ∀ ns : List Int, flatsOf (ns.map D.int) = some (ns.map V.int) := fun ns => by
            induction ns with
            | nil => rfl
            | cons n r ih =>
              show (match D.flat (.int n), flatsOf (r.map D.int) with | some v, some vs => some (v :: vs) | _, _ => none) = _
              rw [ih]
              rfl
          have iv : ∀ ns : List Int, inV (.int 0) (ns.map V.int) = ns.any (· == 0) := fun ns => by
            unfold inV
            rw [List.any_map]
            rfl
          have sb : (ns.map D.int).all stepB = !(ns.any (· == 0)) := by
            rw [List.all_map]
            refine all_not_any _ _ _ fun n hn => ?_
            show stepB (.int n) = _
            unfold stepB
            rw [q2 _ (List.mem_map.mpr ⟨n, hn, rfl⟩), eqB_int, Bool.true_and]
          show dIn true (.int 0) (.tup (ns.map D.int)) _
          unfold dIn
          show (match some (V.int 0), (some (ns.map D.int)).bind flatsOf with | some v, some vs => _ | _, _ => False)
          rw [Option.bind_some, fl]
          dsimp only
          rw [iv, if_pos rfl]
          rw [sb] at h
          cases c : ns.any (· == 0) with
          | true =>
            rw [c] at h
            exact h
          | false =>
            rw [c] at h
            have af : (ns.map D.int).filter stepB = ns.map D.int := by
              rw [c] at sb
              exact List.filter_eq_self.mpr (List.all_eq_true.mp sb)
            rw [af] at h
            unfold sumI at h
            rw [toI_int] at h
            refine onInts_mkT (intsOf_map ns) (dEq_ok (neg := true) ok_int ok_int ?_)
            rw [eqB_int]
            exact h
    | _ => cases hw
theorem q_drawn {a : Addr} (hs : s = some a) (h : ∀ v ns, Scr v ns → P v) : f__law_drawn_steps A s [.ref a, .int 5] P EP := by
  have hp : ∀ (n : Int) (P : D → Prop) (EP : Addr → Prop), 0 < n → n < 1073741824 → (∀ i, 0 ≤ i → i < n → P (.int i)) → f__law_pick A s [.ref a, .int n] P EP := fun n P EP h1 h2 h3 => q_pick hs h1 h2 h3
  have hc : ∀ (xs : List D) (P : D → Prop) (EP : Addr → Prop), 0 < xs.length → xs.length < 1000000 → (∀ d ∈ xs, P d) → f__law_chosen A s [.ref a, .lst xs] P EP := fun n P EP h1 h2 h3 => q_chosen hs (.inl rfl) h1 h2 h3
  unfold f__law_drawn_steps t__law_drawn_steps
  generalize f__law_pick A = φp at hp ⊢
  generalize f__law_chosen A = φc at hc ⊢
  simp [N__law_drawn_steps, e_bodyF, e_bodyN, e_szOk, e_tSize, e_tCl, e_tClN, e_tNF, e_tSc, e_tK, e_tN, e_tR, e_t2, e_tCh, e_tBl, e_tAndB, e_tOrB, e_tNotB, e_tBV, e_tAndD, e_tOrD, e_tNotD, e_tNeg, e_tIfE, e_tIfL, e_tA0, e_tA1, e_tTupD, e_tCD, e_tItl, e_tOwn, e_tIs, e_tIx, e_tO0, e_tO1, e_tSlL, e_tSlT, e_tRev, e_tCatL, e_tRepL, e_tCatT, e_tRepT, e_tTupI, e_tTupL, e_sqD, e_nxD, e_tFz, e_tEx, e_tRt, e_tRn, e_tRo, e_tSet, e_tSetN, e_tIf, e_tRs, e_tSetG, e_tForL, e_tRg1, e_tRg2, e_tWh, e_tApp, e_tStI, e_yesD, e_tLc, e_tM0, e_tMF, e_tMN, e_tMK, e_tMT, e_tPar2, e_tPar3, e_tJoin, e_tIsE, e_tRef, e_tSrcS, e_tSrcI, e_tSrcW, e_tIxO, startD, DE.set, rdS, D.ty, isTy, fLen, fAbs, fInt, fI, fI0, gN, gT, setAll, itemsX, wipeD, MI.slot, fzD, dIx]
  refine hp _ _ _ (by omega) (by omega) fun n hn hn2 => ?_
  refine i_dAdd ?_
  refine ⟨⟨by omega, by omega⟩, ?_⟩
  have hl : (rgD 0 (1 + n).toNat).length = (1 + n).toNat := rgD_len _ _
  refine loop_pre (rgD 0 (1 + n).toNat) (fun k δ => ∃ ns : List Int, ∃ o3 o4, ns.length = k ∧ (∀ x ∈ ns, -11 ≤ x ∧ x ≤ 11 ∧ x ≠ 0) ∧ δ = ⟨s, [.d (.ref a), .d (.int 5), .d (.tup (ns.map D.int)), o3, o4]⟩) 0 _ (Nat.zero_le _) ⟨[], _, _, rfl, fun x hx => (by cases hx), rfl⟩ (fun δ ⟨ns, o3, o4, h1, h2, h3⟩ => ?_) fun k x hx δ ⟨ns, o3, o4, h1, h2, h3⟩ K hK => ?_
  · subst h3
    rw [hl] at h1
    simp
    unfold fSum
    refine onInts_mkT (intsOf_map ns) (dEq_ok (neg := true) ok_int ok_int ?_)
    rw [eqB_int]
    by_cases c : ns.sum = 0
    · rw [beq_iff_eq.mpr c]
      cases ns with
      | nil => rw [List.length_nil] at h1; omega
      | cons y r =>
        have e : cutD (D.int y :: r.map D.int) none (some 1) = [D.int y] := by
          unfold cutD HT.sIx
          simp
        show P (.tup (cutD (D.int y :: r.map D.int) none (some 1)))
        rw [e]
        have hy := h2 y List.mem_cons_self
        refine h _ [y] ⟨rfl, by simp, by simp, fun z hz => ?_, by simp; exact hy.2.2⟩
        rw [List.mem_singleton.mp hz]
        exact hy
    · rw [beq_false_of_ne c]
      exact h _ ns ⟨rfl, by omega, by omega, h2, c⟩
  · subst h3
    have hk : k < 5 := by
      have := (List.getElem?_eq_some_iff.mp hx).1
      omega
    simp [e_bodyF, e_bodyN, e_szOk, e_tSize, e_tCl, e_tClN, e_tNF, e_tSc, e_tK, e_tN, e_tR, e_t2, e_tCh, e_tBl, e_tAndB, e_tOrB, e_tNotB, e_tBV, e_tAndD, e_tOrD, e_tNotD, e_tNeg, e_tIfE, e_tIfL, e_tA0, e_tA1, e_tTupD, e_tCD, e_tItl, e_tOwn, e_tIs, e_tIx, e_tO0, e_tO1, e_tSlL, e_tSlT, e_tRev, e_tCatL, e_tRepL, e_tCatT, e_tRepT, e_tTupI, e_tTupL, e_sqD, e_nxD, e_tFz, e_tEx, e_tRt, e_tRn, e_tRo, e_tSet, e_tSetN, e_tIf, e_tRs, e_tSetG, e_tForL, e_tRg1, e_tRg2, e_tWh, e_tApp, e_tStI, e_yesD, e_tLc, e_tM0, e_tMF, e_tMN, e_tMK, e_tMT, e_tPar2, e_tPar3, e_tJoin, e_tIsE, e_tRef, e_tSrcS, e_tSrcI, e_tSrcW, e_tIxO, startD, DE.set, rdS, D.ty, isTy, fLen, fAbs, fInt, fI, fI0, gN, gT, setAll, itemsX, wipeD, MI.slot, fzD, dIx]
    have size : ∀ c : Int, 3 ≤ c → c ≤ 11 → φp s [.ref a, .int c] (fun y => dAdd (.int 1) y fun z => φc s [.ref a, .lst [.int 1, .int 1, .int (-1)]] (fun w => dMul z w fun u => ns.length ≤ 99999 ∧ K ⟨s, [.d (.ref a), .d (.int 5), .d (.tup (ns.map D.int ++ [u])), .d x, .d z]⟩) (fun c => EP c)) (fun c => EP c) := fun c hc1 hc2 => by
      refine hp _ _ _ (by omega) (by omega) fun y hy hy2 => ?_
      refine i_dAdd ?_
      have fin : ∀ g : Int, (g = 1 ∨ g = -1) → dMul (.int (1 + y)) (.int g) fun u => ns.length ≤ 99999 ∧ K ⟨s, [.d (.ref a), .d (.int 5), .d (.tup (ns.map D.int ++ [u])), .d x, .d (.int (1 + y))]⟩ := fun g hg => by
        refine i_dMul (cmul_l (by omega) (by omega)) ⟨by omega, hK _ ⟨ns ++ [(1 + y) * g], _, _, by rw [List.length_append, h1]; rfl, fun z hz => ?_, by rw [List.map_append]; rfl⟩⟩
        rcases List.mem_append.mp hz with q | q
        · exact h2 z q
        · rw [List.mem_singleton.mp q]
          rcases hg with e | e <;> subst e <;> omega
      refine hc _ _ _ (by simp) (by simp) fun w hw => ?_
      simp only [List.mem_cons, List.not_mem_nil, or_false] at hw
      rcases hw with e | e | e <;> subst e
      · exact fin 1 (.inl rfl)
      · exact fin 1 (.inl rfl)
      · exact fin (-1) (.inr rfl)
    refine hc _ _ _ (by simp) (by simp) fun c hd => ?_
    simp only [List.mem_cons, List.not_mem_nil, or_false] at hd
    rcases hd with e | e | e <;> subst e
    · exact size 3 (by omega) (by omega)
    · exact size 6 (by omega) (by omega)
    · exact size 11 (by omega) (by omega)
theorem q_error_script {a : Addr} {R : D → Prop} (hA : ∀ x ∈ errN, ∀ y ∈ errN, A x = A y → x = y) (h : R (.str "script")) : f__law_error A a (A "InvalidScript") R := by
  have ne : ∀ y ∈ errN, y ≠ "InvalidScript" → A "InvalidScript" ≠ A y := fun y hy hn e => hn (hA _ (by decide) _ hy e).symm
  refine ⟨⟨_, by decide, rfl⟩, fun s => ?_⟩
  have n1 := ne "InvalidRing" (by decide) (by decide)
  have n2 := ne "InvalidPeg" (by decide) (by decide)
  have n3 := ne "InvalidIndex" (by decide) (by decide)
  have n4 := ne "InvalidWord" (by decide) (by decide)
  have n5 := ne "InvalidLength" (by decide) (by decide)
  have n6 := ne "InvalidSeen" (by decide) (by decide)
  have n7 := ne "InvalidNumber" (by decide) (by decide)
  have n8 := ne "InvalidText" (by decide) (by decide)
  have n9 := ne "AllLaid" (by decide) (by decide)
  have n10 := ne "NothingToUndo" (by decide) (by decide)
  simp [N__law_error, t__law_error, e_bodyF, e_bodyN, e_szOk, e_tSize, e_tCl, e_tClN, e_tNF, e_tSc, e_tK, e_tN, e_tR, e_t2, e_tCh, e_tBl, e_tAndB, e_tOrB, e_tNotB, e_tBV, e_tAndD, e_tOrD, e_tNotD, e_tNeg, e_tIfE, e_tIfL, e_tA0, e_tA1, e_tTupD, e_tCD, e_tItl, e_tOwn, e_tIs, e_tIx, e_tO0, e_tO1, e_tSlL, e_tSlT, e_tRev, e_tCatL, e_tRepL, e_tCatT, e_tRepT, e_tTupI, e_tTupL, e_sqD, e_nxD, e_tFz, e_tEx, e_tRt, e_tRn, e_tRo, e_tSet, e_tSetN, e_tIf, e_tRs, e_tSetG, e_tForL, e_tRg1, e_tRg2, e_tWh, e_tApp, e_tStI, e_yesD, e_tLc, e_tM0, e_tMF, e_tMN, e_tMK, e_tMT, e_tPar2, e_tPar3, e_tJoin, e_tIsE, e_tRef, e_tSrcS, e_tSrcI, e_tSrcW, e_tIxO, startD, DE.set, rdS, D.ty, isTy, fLen, fAbs, fInt, fI, fI0, gN, gT, setAll, itemsX, wipeD, MI.slot, fzD, dIx, n1, n2, n3, n4, n5, n6, n7, n8, n9, n10]
  refine comp_words rfl (fun x hx => ?_) ?_
  · simp only [List.mem_cons, List.not_mem_nil, or_false] at hx
    rcases hx with e | e | e | e | e | e | e | e | e | e | e <;> exact ⟨_, _, e⟩
  · show dJoin " " [.str "script"] _
    refine ⟨by decide +kernel, ?_⟩
    rw [show Txt.join " " ["script"] = "script" from by decide +kernel]
    exact h
end
end Wn

set_option Elab.async false
set_option linter.all false
set_option maxRecDepth 100000
set_option maxHeartbeats 400000
namespace Wn
open PySem PySem.Spec PyProof.Rows L2
/-- what the names' addresses must be for the law's reading -/
structure Names (K : PySem.W.Frag) (A : Str → Addr) : Prop where
  inj : ∀ x ∈ errN, ∀ y ∈ errN, A x = A y → x = y
  exm : ∀ y ∈ errN, PySem.W.exmOne K (.ref (A y)) (.ref (A "WindError")) = some true
/-- the defs that the law hands to its helpers -/
def Phi (A : Str → Addr) (f : Addr) (n : Nat) : Option Fn := match n with
  | 1 => if f = A "total" then some (f_total A) else if f = A "divisors" then some (fD (f_divisors A)) else none
  | 2 => if f = A "divisor" then some (f_divisor A) else none
  | _ => none
section
variable {A : Str → Addr} {K : PySem.W.Frag} {s : Option Addr} {P : D → Prop} {PL : List D → Prop} {EP : Addr → Prop} {Φ : Addr → Nat → Option Fn}
theorem q_error_ring {a : Addr} {R : D → Prop} (hA : ∀ x ∈ errN, ∀ y ∈ errN, A x = A y → x = y) (h : R (.str "ring")) : f__law_error A a (A "InvalidRing") R := by
  have ne : ∀ y ∈ errN, y ≠ "InvalidRing" → A "InvalidRing" ≠ A y := fun y hy hn e => hn (hA _ (by decide) _ hy e).symm
  refine ⟨⟨_, by decide, rfl⟩, fun s => ?_⟩
  have n1 := ne "InvalidScript" (by decide) (by decide)
  have n2 := ne "InvalidPeg" (by decide) (by decide)
  have n3 := ne "InvalidIndex" (by decide) (by decide)
  have n4 := ne "InvalidWord" (by decide) (by decide)
  have n5 := ne "InvalidLength" (by decide) (by decide)
  have n6 := ne "InvalidSeen" (by decide) (by decide)
  have n7 := ne "InvalidNumber" (by decide) (by decide)
  have n8 := ne "InvalidText" (by decide) (by decide)
  have n9 := ne "AllLaid" (by decide) (by decide)
  have n10 := ne "NothingToUndo" (by decide) (by decide)
  simp [N__law_error, t__law_error, e_bodyF, e_bodyN, e_szOk, e_tSize, e_tCl, e_tClN, e_tNF, e_tSc, e_tK, e_tN, e_tR, e_t2, e_tCh, e_tBl, e_tAndB, e_tOrB, e_tNotB, e_tBV, e_tAndD, e_tOrD, e_tNotD, e_tNeg, e_tIfE, e_tIfL, e_tA0, e_tA1, e_tTupD, e_tCD, e_tItl, e_tOwn, e_tIs, e_tIx, e_tO0, e_tO1, e_tSlL, e_tSlT, e_tRev, e_tCatL, e_tRepL, e_tCatT, e_tRepT, e_tTupI, e_tTupL, e_sqD, e_nxD, e_tFz, e_tEx, e_tRt, e_tRn, e_tRo, e_tSet, e_tSetN, e_tIf, e_tRs, e_tSetG, e_tForL, e_tRg1, e_tRg2, e_tWh, e_tApp, e_tStI, e_yesD, e_tLc, e_tM0, e_tMF, e_tMN, e_tMK, e_tMT, e_tPar2, e_tPar3, e_tJoin, e_tIsE, e_tRef, e_tSrcS, e_tSrcI, e_tSrcW, e_tIxO, startD, DE.set, rdS, D.ty, isTy, fLen, fAbs, fInt, fI, fI0, gN, gT, setAll, itemsX, wipeD, MI.slot, fzD, dIx, n1, n2, n3, n4, n5, n6, n7, n8, n9, n10]
  refine comp_words rfl (fun x hx => ?_) ?_
  · simp only [List.mem_cons, List.not_mem_nil, or_false] at hx
    rcases hx with e | e | e | e | e | e | e | e | e | e | e <;> exact ⟨_, _, e⟩
  · show dJoin " " [.str "ring"] _
    refine ⟨by decide +kernel, ?_⟩
    rw [show Txt.join " " ["ring"] = "ring" from by decide +kernel]
    exact h
theorem q_by_one {f : Addr} {x : D} {φ : Fn} (hf : Φ f 1 = some φ) (h : φ s [x] (fun _ => P (.str "")) (fun c => PySem.W.exmOne K (.ref c) (.ref (A "WindError")) = some true ∧ ∀ a, f__law_error A a c P)) : f__law_by_one K A Φ s [.ref f, x] P EP := by
  unfold f__law_by_one t__law_by_one
  generalize f__law_error A = ψ at h ⊢
  simp [N__law_by_one, e_bodyF, e_bodyN, e_szOk, e_tSize, e_tCl, e_tClN, e_tNF, e_tSc, e_tK, e_tN, e_tR, e_t2, e_tCh, e_tBl, e_tAndB, e_tOrB, e_tNotB, e_tBV, e_tAndD, e_tOrD, e_tNotD, e_tNeg, e_tIfE, e_tIfL, e_tA0, e_tA1, e_tTupD, e_tCD, e_tItl, e_tOwn, e_tIs, e_tIx, e_tO0, e_tO1, e_tSlL, e_tSlT, e_tRev, e_tCatL, e_tRepL, e_tCatT, e_tRepT, e_tTupI, e_tTupL, e_sqD, e_nxD, e_tFz, e_tEx, e_tRt, e_tRn, e_tRo, e_tSet, e_tSetN, e_tIf, e_tRs, e_tSetG, e_tForL, e_tRg1, e_tRg2, e_tWh, e_tApp, e_tStI, e_yesD, e_tLc, e_tM0, e_tMF, e_tMN, e_tMK, e_tMT, e_tPar2, e_tPar3, e_tJoin, e_tIsE, e_tRef, e_tSrcS, e_tSrcI, e_tSrcW, e_tIxO, startD, DE.set, rdS, D.ty, isTy, fLen, fAbs, fInt, fI, fI0, gN, gT, setAll, itemsX, wipeD, MI.slot, fzD, dIx, tClV, hf, Nat.beq]
  exact h
theorem q_by_two {f : Addr} {x y : D} {φ : Fn} (hf : Φ f 2 = some φ) (h : φ s [x, y] (fun _ => P (.str "")) (fun c => PySem.W.exmOne K (.ref c) (.ref (A "WindError")) = some true ∧ ∀ a, f__law_error A a c P)) : f__law_by_two K A Φ s [.ref f, x, y] P EP := by
  unfold f__law_by_two t__law_by_two
  generalize f__law_error A = ψ at h ⊢
  simp [N__law_by_two, e_bodyF, e_bodyN, e_szOk, e_tSize, e_tCl, e_tClN, e_tNF, e_tSc, e_tK, e_tN, e_tR, e_t2, e_tCh, e_tBl, e_tAndB, e_tOrB, e_tNotB, e_tBV, e_tAndD, e_tOrD, e_tNotD, e_tNeg, e_tIfE, e_tIfL, e_tA0, e_tA1, e_tTupD, e_tCD, e_tItl, e_tOwn, e_tIs, e_tIx, e_tO0, e_tO1, e_tSlL, e_tSlT, e_tRev, e_tCatL, e_tRepL, e_tCatT, e_tRepT, e_tTupI, e_tTupL, e_sqD, e_nxD, e_tFz, e_tEx, e_tRt, e_tRn, e_tRo, e_tSet, e_tSetN, e_tIf, e_tRs, e_tSetG, e_tForL, e_tRg1, e_tRg2, e_tWh, e_tApp, e_tStI, e_yesD, e_tLc, e_tM0, e_tMF, e_tMN, e_tMK, e_tMT, e_tPar2, e_tPar3, e_tJoin, e_tIsE, e_tRef, e_tSrcS, e_tSrcI, e_tSrcW, e_tIxO, startD, DE.set, rdS, D.ty, isTy, fLen, fAbs, fInt, fI, fI0, gN, gT, setAll, itemsX, wipeD, MI.slot, fzD, dIx, tClV, hf, Nat.beq]
  exact h
end
end Wn

set_option Elab.async false
set_option linter.all false
set_option maxRecDepth 100000
set_option maxHeartbeats 400000
namespace Wn
open PySem PySem.Spec PyProof.Rows L2
section
variable {A : Str → Addr} {K : PySem.W.Frag} {Φ : Addr → Nat → Option Fn} {a : Addr} {Z : DEnds} {o0 o1 o2 o3 o4 o5 o6 o7 o8 o9 o10 o11 o12 o13 o14 o15 : Slot}
structure PhiOk (A : Str → Addr) (Φ : Addr → Nat → Option Fn) : Prop where
  t : Φ (A "total") 1 = some (f_total A)
  ds : Φ (A "divisors") 1 = some (fD (f_divisors A))
  d : Φ (A "divisor") 2 = some (f_divisor A)
theorem Scr.ok {v : D} {ns : List Int} (h : Scr v ns) : D.ok 64 v = true := by
  rw [h.e]
  exact ok_tupI ns
theorem b_ring {s : Option Addr} {P : D → Prop} {EP : Addr → Prop} {st odd : D} {ns : List Int} (hN : Names K A) (hΦ : PhiOk A Φ) (sc : Scr st ns) (ho : odd.ty.isSome = true) (hw : whole odd 24 1000000000000000000000000000000 = false) (h : P (.str "ring")) : f__law_by_two K A Φ s [.ref (A "divisor"), st, odd] P EP :=
  q_by_two hΦ.d (q_divisor sc.ok ho (fun ms i _ e h1 h2 => by
    rw [e, whole_e, decide_eq_true h1, decide_eq_true h2] at hw
    cases hw) (fun e => by rw [scr_scriptB sc] at e; cases e) (fun _ _ => ⟨hN.exm _ (by decide), fun a => q_error_ring hN.inj h⟩))
theorem e_script {P : D → Prop} (hN : Names K A) (h : P (.str "script")) : PySem.W.exmOne K (.ref (A "InvalidScript")) (.ref (A "WindError")) = some true ∧ ∀ a, f__law_error A a (A "InvalidScript") P := ⟨hN.exm _ (by decide), fun a => q_error_script hN.inj h⟩
theorem b_total {s : Option Addr} {P : D → Prop} {EP : Addr → Prop} {odd : D} (hN : Names K A) (hΦ : PhiOk A Φ) (ho : D.ok 64 odd = true) (hw : scriptB odd = false) (h : P (.str "script")) : f__law_by_one K A Φ s [.ref (A "total"), odd] P EP :=
  q_by_one hΦ.t (q_total ho (fun ns sc => by rw [scr_scriptB sc] at hw; cases hw) fun _ => e_script hN h)
theorem b_divisors {s : Option Addr} {P : D → Prop} {EP : Addr → Prop} {odd : D} (hN : Names K A) (hΦ : PhiOk A Φ) (ho : D.ok 64 odd = true) (hw : scriptB odd = false) (h : P (.str "script")) : f__law_by_one K A Φ s [.ref (A "divisors"), odd] P EP :=
  q_by_one hΦ.ds (q_divisors ho (fun ns sc => by rw [scr_scriptB sc] at hw; cases hw) fun _ => e_script hN h)
theorem b_divisor {s : Option Addr} {P : D → Prop} {EP : Addr → Prop} {odd : D} (hN : Names K A) (hΦ : PhiOk A Φ) (ho : D.ok 64 odd = true) (hw : scriptB odd = false) (h : P (.str "script")) : f__law_by_two K A Φ s [.ref (A "divisor"), odd, .non] P EP :=
  q_by_two hΦ.d (q_divisor ho rfl (fun ns i sc => by rw [scr_scriptB sc] at hw; cases hw) (fun _ => e_script hN h) fun e => by rw [hw] at e; cases e)
theorem eqB_str (x y : Str) : D.eqB (.str x) (.str y) = (x == y) := by
  unfold D.eqB D.py PyData.eqv
  rfl
theorem l8 {st odd : D} {ns : List Int} (hN : Names K A) (hΦ : PhiOk A Φ) (sc : Scr st ns) (ho : odd.ty.isSome = true) (hw : whole odd 24 1000000000000000000000000000000 = false) (h : Z.nx ⟨some a, [o0, o1, .sr a, .d st, o4, o5, .d odd, o7, o8, o9, o10, o11, o12, o13, o14, o15]⟩) :
    p8_0_law A K Φ ⟨some a, [o0, o1, .sr a, .d st, o4, o5, .d odd, o7, o8, o9, o10, o11, o12, o13, o14, o15]⟩ Z := by
  have hb : ∀ (P : D → Prop) (EP : Addr → Prop), P (.str "ring") → f__law_by_two K A Φ (some a) [.ref (A "divisor"), st, odd] P EP := fun P EP q => b_ring hN hΦ sc ho hw q
  unfold p8_0_law
  generalize f__law_by_two K A Φ = ψ at hb ⊢
  simp [e_bodyF, e_bodyN, e_szOk, e_tSize, e_tCl, e_tClN, e_tNF, e_tSc, e_tK, e_tN, e_tR, e_t2, e_tCh, e_tBl, e_tAndB, e_tOrB, e_tNotB, e_tBV, e_tAndD, e_tOrD, e_tNotD, e_tNeg, e_tIfE, e_tIfL, e_tA0, e_tA1, e_tTupD, e_tCD, e_tItl, e_tOwn, e_tIs, e_tIx, e_tO0, e_tO1, e_tSlL, e_tSlT, e_tRev, e_tCatL, e_tRepL, e_tCatT, e_tRepT, e_tTupI, e_tTupL, e_sqD, e_nxD, e_tFz, e_tEx, e_tRt, e_tRn, e_tRo, e_tSet, e_tSetN, e_tIf, e_tRs, e_tSetG, e_tForL, e_tRg1, e_tRg2, e_tWh, e_tApp, e_tStI, e_yesD, e_tLc, e_tM0, e_tMF, e_tMN, e_tMK, e_tMT, e_tPar2, e_tPar3, e_tJoin, e_tIsE, e_tRef, e_tSrcS, e_tSrcI, e_tSrcW, e_tIxO, startD, DE.set, rdS, D.ty, isTy, fLen, fAbs, fInt, fI, fI0, gN, gT, setAll, itemsX, wipeD, MI.slot, fzD, dIx]
  refine hb _ _ (dEq_ok (neg := true) (by decide +kernel) (by decide +kernel) ?_)
  rw [eqB_str, beq_self_eq_true]
  exact h
theorem l7 {odd : D} (hN : Names K A) (hΦ : PhiOk A Φ) (ho : D.ok 64 odd = true) (hw : scriptB odd = false) (h : ∀ f, Z.nx ⟨some a, [o0, o1, .sr a, o3, o4, o5, .d odd, o7, o8, o9, o10, o11, o12, o13, .d f, o15]⟩) :
    p7_0_law A K Φ ⟨some a, [o0, o1, .sr a, o3, o4, o5, .d odd, o7, o8, o9, o10, o11, o12, o13, o14, o15]⟩ Z := by
  have hb : ∀ (P : D → Prop) (EP : Addr → Prop), P (.str "script") → f__law_by_two K A Φ (some a) [.ref (A "divisor"), odd, .non] P EP := fun P EP q => b_divisor hN hΦ ho hw q
  have h1 : ∀ (P : D → Prop) (EP : Addr → Prop), P (.str "script") → f__law_by_one K A Φ (some a) [.ref (A "total"), odd] P EP := fun P EP q => b_total hN hΦ ho hw q
  have h2 : ∀ (P : D → Prop) (EP : Addr → Prop), P (.str "script") → f__law_by_one K A Φ (some a) [.ref (A "divisors"), odd] P EP := fun P EP q => b_divisors hN hΦ ho hw q
  unfold p7_0_law p7_1_law
  generalize f__law_by_two K A Φ = ψ at hb ⊢
  generalize f__law_by_one K A Φ = χ at h1 h2 ⊢
  simp [e_bodyF, e_bodyN, e_szOk, e_tSize, e_tCl, e_tClN, e_tNF, e_tSc, e_tK, e_tN, e_tR, e_t2, e_tCh, e_tBl, e_tAndB, e_tOrB, e_tNotB, e_tBV, e_tAndD, e_tOrD, e_tNotD, e_tNeg, e_tIfE, e_tIfL, e_tA0, e_tA1, e_tTupD, e_tCD, e_tItl, e_tOwn, e_tIs, e_tIx, e_tO0, e_tO1, e_tSlL, e_tSlT, e_tRev, e_tCatL, e_tRepL, e_tCatT, e_tRepT, e_tTupI, e_tTupL, e_sqD, e_nxD, e_tFz, e_tEx, e_tRt, e_tRn, e_tRo, e_tSet, e_tSetN, e_tIf, e_tRs, e_tSetG, e_tForL, e_tRg1, e_tRg2, e_tWh, e_tApp, e_tStI, e_yesD, e_tLc, e_tM0, e_tMF, e_tMN, e_tMK, e_tMT, e_tPar2, e_tPar3, e_tJoin, e_tIsE, e_tRef, e_tSrcS, e_tSrcI, e_tSrcW, e_tIxO, startD, DE.set, rdS, D.ty, isTy, fLen, fAbs, fInt, fI, fI0, gN, gT, setAll, itemsX, wipeD, MI.slot, fzD, dIx]
  refine h1 _ _ (h2 _ _ (hb _ _ ?_))
  refine dEq_ok (neg := true) (by decide +kernel) (by decide +kernel) ?_
  rw [show D.eqB (.lst [.str "script", .str "script", .str "script"]) (.lst [.str "script", .str "script", .str "script"]) = true from by decide +kernel]
  exact h _
theorem l4 {v : D} (hv : D.ok 64 v = true) (h : Z.nx ⟨some a, [o0, o1, .sr a, o3, o4, o5, o6, .d v, o8, o9, o10, o11, o12, o13, o14, o15]⟩) :
    p4_0_law A K Φ ⟨some a, [o0, o1, .sr a, o3, o4, o5, o6, .d v, o8, o9, o10, o11, o12, o13, o14, o15]⟩ Z := by
  have h1 : ∀ (P : D → Prop) (EP : Addr → Prop), P (.bl (scriptB v)) → f_is_script A (some a) [v] P EP := fun P EP q => q_is_script hv q
  have h2 : ∀ (P : D → Prop) (EP : Addr → Prop), P (.bl (scriptB v)) → f__law_good A (some a) [v] P EP := fun P EP q => q_good hv q
  have h3 : ∀ (b : Bool) (P : D → Prop) (EP : Addr → Prop), P (.bl (b == b)) → f__law_is_bool A (some a) [.bl b, .bl b] P EP := fun b P EP q => q_is_bool q
  unfold p4_0_law
  generalize f_is_script A = φ1 at h1 ⊢
  generalize f__law_good A = φ2 at h2 ⊢
  generalize f__law_is_bool A = φ3 at h3 ⊢
  simp [e_bodyF, e_bodyN, e_szOk, e_tSize, e_tCl, e_tClN, e_tNF, e_tSc, e_tK, e_tN, e_tR, e_t2, e_tCh, e_tBl, e_tAndB, e_tOrB, e_tNotB, e_tBV, e_tAndD, e_tOrD, e_tNotD, e_tNeg, e_tIfE, e_tIfL, e_tA0, e_tA1, e_tTupD, e_tCD, e_tItl, e_tOwn, e_tIs, e_tIx, e_tO0, e_tO1, e_tSlL, e_tSlT, e_tRev, e_tCatL, e_tRepL, e_tCatT, e_tRepT, e_tTupI, e_tTupL, e_sqD, e_nxD, e_tFz, e_tEx, e_tRt, e_tRn, e_tRo, e_tSet, e_tSetN, e_tIf, e_tRs, e_tSetG, e_tForL, e_tRg1, e_tRg2, e_tWh, e_tApp, e_tStI, e_yesD, e_tLc, e_tM0, e_tMF, e_tMN, e_tMK, e_tMT, e_tPar2, e_tPar3, e_tJoin, e_tIsE, e_tRef, e_tSrcS, e_tSrcI, e_tSrcW, e_tIxO, startD, DE.set, rdS, D.ty, isTy, fLen, fAbs, fInt, fI, fI0, gN, gT, setAll, itemsX, wipeD, MI.slot, fzD, dIx]
  refine h1 _ _ (h2 _ _ (h3 _ _ _ ?_))
  rw [beq_self_eq_true]
  exact h
theorem l3 {ns : List Int} {xs : List D} (hns : ns.length ≤ 14) (hl : xs.length ≤ 1000) (hx : ∀ x ∈ xs, D.ok 60 x = true) (h : ∀ odd xs', xs'.length ≤ xs.length + 2 → (∀ x ∈ xs', D.ok 60 x = true) → Z.nx ⟨some a, [o0, o1, .sr a, .d (.tup (ns.map D.int)), .ow xs', o5, .d odd, o7, o8, o9, o10, o11, o12, o13, o14, o15]⟩) :
    p3_0_law A K Φ ⟨some a, [o0, o1, .sr a, .d (.tup (ns.map D.int)), .ow xs, o5, o6, o7, o8, o9, o10, o11, o12, o13, o14, o15]⟩ Z := by
  have hv : ∀ (m d : Nat) (ds : List D) (P : D → Prop) (EP : Addr → Prop), 14 ≤ m → m ≤ 1000 → d ≤ 60 → D.wid m (d + 1) (.tup ds) = true → (∀ v, D.wid (3 * m + 1) (d + 4) v = true → P v) → r__law_variant A 5 (some a) [.ref a, .tup ds, .int 4] P EP := fun m d ds P EP h1 h2 h3 h4 h5 => q_variant rfl 5 4 m d ds P EP (by omega) (by omega) h1 h2 h3 h4 h5
  have hp : ∀ (n : Int) (P : D → Prop) (EP : Addr → Prop), 0 < n → n < 1073741824 → (∀ i, 0 ≤ i → i < n → P (.int i)) → f__law_pick A (some a) [.ref a, .int n] P EP := fun n P EP h1 h2 h3 => q_pick rfl h1 h2 h3
  unfold p3_0_law p3_1_law p3_2_law
  generalize r__law_variant A 5 = φv at hv ⊢
  generalize f__law_pick A = φp at hp ⊢
  simp [e_bodyF, e_bodyN, e_szOk, e_tSize, e_tCl, e_tClN, e_tNF, e_tSc, e_tK, e_tN, e_tR, e_t2, e_tCh, e_tBl, e_tAndB, e_tOrB, e_tNotB, e_tBV, e_tAndD, e_tOrD, e_tNotD, e_tNeg, e_tIfE, e_tIfL, e_tA0, e_tA1, e_tTupD, e_tCD, e_tItl, e_tOwn, e_tIs, e_tIx, e_tO0, e_tO1, e_tSlL, e_tSlT, e_tRev, e_tCatL, e_tRepL, e_tCatT, e_tRepT, e_tTupI, e_tTupL, e_sqD, e_nxD, e_tFz, e_tEx, e_tRt, e_tRn, e_tRo, e_tSet, e_tSetN, e_tIf, e_tRs, e_tSetG, e_tForL, e_tRg1, e_tRg2, e_tWh, e_tApp, e_tStI, e_yesD, e_tLc, e_tM0, e_tMF, e_tMN, e_tMK, e_tMT, e_tPar2, e_tPar3, e_tJoin, e_tIsE, e_tRef, e_tSrcS, e_tSrcI, e_tSrcW, e_tIxO, startD, DE.set, rdS, D.ty, isTy, fLen, fAbs, fInt, fI, fI0, gN, gT, setAll, itemsX, wipeD, MI.slot, fzD, dIx]
  refine hv 14 0 _ _ _ (by omega) (by omega) (by omega) (wid_tup (by rw [List.length_map]; exact hns) fun x q => ?_) fun odd ho => ?_
  · obtain ⟨n, _, e⟩ := List.mem_map.mp q
    rw [← e]
    rfl
  · have ok1 : D.ok 60 odd = true := D.ok_mono 4 60 odd (by omega) (wid_ok 4 odd ho)
    have hx1 : ∀ x ∈ xs ++ [odd], D.ok 60 x = true := fun x q => by
      rcases List.mem_append.mp q with q | q
      · exact hx x q
      · rw [List.mem_singleton.mp q]
        exact ok1
    have base := h odd (xs ++ [odd]) (by simp) hx1
    refine ⟨by omega, ?_⟩
    cases odd with
    | tup es =>
      refine hp _ _ _ (by omega) (by omega) fun i hi hi2 => ?_
      refine dEq_ok (neg := false) ok_int ok_int ?_
      rw [eqB_int]
      cases i == 0 with
      | false => exact base
      | true =>
        refine hv 43 3 _ _ _ (by omega) (by omega) (by omega) ho fun v hv2 => ⟨by omega, ?_⟩
        have ok2 : D.ok 60 v = true := D.ok_mono 7 60 v (by omega) (wid_ok 7 v hv2)
        have e : xs ++ [.tup es, v] = (xs ++ [.tup es]) ++ [v] := by simp
        have hx2 : ∀ x ∈ (xs ++ [.tup es]) ++ [v], D.ok 60 x = true := fun x q => by
          rcases List.mem_append.mp q with q | q
          · exact hx1 x q
          · rw [List.mem_singleton.mp q]
            exact ok2
        have fin := h (.tup es) ((xs ++ [.tup es]) ++ [v]) (by simp) hx2
        simpa using fin
    | _ => first
      | exact base
      | (cases ho; done)
/-- divisors told twice, and the sum -/
theorem l5 {st : D} {ns : List Int} (sc : Scr st ns) (h : ∀ xs, Z.nx ⟨some a, [o0, o1, .sr a, .d st, o4, o5, o6, o7, o8, .d (.lst ((divL ns.sum).map D.int)), o10, o11, .ow xs, o13, o14, o15]⟩) :
    p5_0_law A K Φ ⟨some a, [o0, o1, .sr a, .d st, o4, o5, o6, o7, o8, .d (.lst ((divL ns.sum).map D.int)), o10, o11, o12, o13, o14, o15]⟩ Z := by
  have h1 : ∀ (P : List D → Prop) (EP : Addr → Prop), P ((divL ns.sum).map D.int) → f_divisors A (some a) [st] P EP := fun P EP q => q_divisors sc.ok (fun ms sc2 => by
    have e : ms.map D.int = ns.map D.int := D.tup.inj (sc2.e.symm.trans sc.e)
    have e2 : ms = ns := by rw [← toI_int ms, e, toI_int]
    rw [e2]
    exact q) fun z => by rw [scr_scriptB sc] at z; cases z
  have h2 : ∀ (P : D → Prop) (EP : Addr → Prop), P (.int ns.sum) → f_total A (some a) [st] P EP := fun P EP q => q_total sc.ok (fun ms sc2 => by
    have e : ms.map D.int = ns.map D.int := D.tup.inj (sc2.e.symm.trans sc.e)
    have e2 : ms = ns := by rw [← toI_int ms, e, toI_int]
    rw [e2]
    exact q) fun z => by rw [scr_scriptB sc] at z; cases z
  have hlen : (divL ns.sum).length ≤ 1000 := by
    unfold divL
    refine Nat.le_trans (List.length_filter_le _ _) ?_
    rw [List.length_map, List.length_range]
    have := sc.abs
    omega
  unfold p5_0_law p5_1_law p5_2_law
  generalize f_divisors A = φ1 at h1 ⊢
  generalize f_total A = φ2 at h2 ⊢
  simp [e_bodyF, e_bodyN, e_szOk, e_tSize, e_tCl, e_tClN, e_tNF, e_tSc, e_tK, e_tN, e_tR, e_t2, e_tCh, e_tBl, e_tAndB, e_tOrB, e_tNotB, e_tBV, e_tAndD, e_tOrD, e_tNotD, e_tNeg, e_tIfE, e_tIfL, e_tA0, e_tA1, e_tTupD, e_tCD, e_tItl, e_tOwn, e_tIs, e_tIx, e_tO0, e_tO1, e_tSlL, e_tSlT, e_tRev, e_tCatL, e_tRepL, e_tCatT, e_tRepT, e_tTupI, e_tTupL, e_sqD, e_nxD, e_tFz, e_tEx, e_tRt, e_tRn, e_tRo, e_tSet, e_tSetN, e_tIf, e_tRs, e_tSetG, e_tForL, e_tRg1, e_tRg2, e_tWh, e_tApp, e_tStI, e_yesD, e_tLc, e_tM0, e_tMF, e_tMN, e_tMK, e_tMT, e_tPar2, e_tPar3, e_tJoin, e_tIsE, e_tRef, e_tSrcS, e_tSrcI, e_tSrcW, e_tIxO, startD, DE.set, rdS, D.ty, isTy, fLen, fAbs, fInt, fI, fI0, gN, gT, setAll, itemsX, wipeD, MI.slot, fzD, dIx]
  refine h1 _ _ (h2 _ _ ?_)
  unfold fSum
  rw [sc.e]
  refine onInts_mkT (intsOf_map ns) (dEq_ok (neg := true) ok_int ok_int ?_)
  rw [eqB_int, beq_self_eq_true]
  refine dEq_ok (neg := true) (ok_lstI _) (ok_lstI _) ?_
  rw [eqB_lstI, beq_self_eq_true]
  rw [sc.e] at h
  refine ⟨by rw [List.length_map]; omega, h _⟩
end
end Wn

set_option Elab.async false
set_option linter.all false
set_option maxRecDepth 100000
set_option maxHeartbeats 400000
namespace Wn
open PySem PySem.Spec PyProof.Rows L2
theorem mem_divL {m d : Int} : d ∈ divL m ↔ 1 ≤ d ∧ d ≤ m.natAbs ∧ (m.natAbs : Int) % d = 0 := by
  unfold divL
  rw [List.mem_filter, List.mem_map, beq_iff_eq]
  constructor
  · rintro ⟨⟨k, hk, e⟩, h⟩
    rw [List.mem_range] at hk
    exact ⟨by omega, by omega, h⟩
  · rintro ⟨h1, h2, h3⟩
    exact ⟨⟨(d - 1).toNat, by rw [List.mem_range]; omega, by omega⟩, h3⟩
theorem max_gcd {i m : Int} (hm : m ≠ 0) : ((Int.gcd i m : Nat) : Int) ∈ (divL m).filter (fun d => i % d == 0) ∧ ∀ d ∈ (divL m).filter (fun d => i % d == 0), d ≤ (Int.gcd i m : Nat) := by
  have hp : 0 < Int.gcd i m := Int.gcd_pos_of_ne_zero_right i hm
  have d1 : ((Int.gcd i m : Nat) : Int) ∣ i := Int.gcd_dvd_left ..
  have d2 : ((Int.gcd i m : Nat) : Int) ∣ m := Int.gcd_dvd_right ..
  have d3 : ((Int.gcd i m : Nat) : Int) ∣ (m.natAbs : Int) := Int.dvd_natAbs.mpr d2
  constructor
  · rw [List.mem_filter, mem_divL, beq_iff_eq]
    exact ⟨⟨by omega, Int.le_of_dvd (by omega) d3, Int.emod_eq_zero_of_dvd d3⟩, Int.emod_eq_zero_of_dvd d1⟩
  · intro d hd
    rw [List.mem_filter, mem_divL, beq_iff_eq] at hd
    obtain ⟨⟨h1, h2, h3⟩, h4⟩ := hd
    have e1 : d ∣ i := Int.dvd_of_emod_eq_zero h4
    have e2 : d ∣ m := Int.dvd_natAbs.mp (Int.dvd_of_emod_eq_zero h3)
    exact Int.le_of_dvd (by omega) (Int.dvd_coe_gcd e1 e2)
section
variable {A : Str → Addr} {K : PySem.W.Frag} {Φ : Addr → Nat → Option Fn} {a : Addr} {Z : DEnds} {o0 o1 o2 o3 o4 o5 o6 o7 o8 o9 o10 o11 o12 o13 o14 o15 : Slot}
theorem l6 {st : D} {ns : List Int} {i : Int} (sc : Scr st ns) (hi : 24 ≤ i) (hi2 : i ≤ 1000000000000000000000000000000) (h : Z.nx ⟨some a, [o0, o1, .sr a, .d st, o4, o5, o6, o7, o8, .d (.lst ((divL ns.sum).map D.int)), o10, o11, o12, .d (.int i), o14, o15]⟩) :
    p6_0_law A K Φ ⟨some a, [o0, o1, .sr a, .d st, o4, o5, o6, o7, o8, .d (.lst ((divL ns.sum).map D.int)), o10, o11, o12, .d (.int i), o14, o15]⟩ Z := by
  have h1 : ∀ (P : D → Prop) (EP : Addr → Prop), P (.int (Int.gcd i ns.sum)) → f_divisor A (some a) [st, .int i] P EP := fun P EP q => q_divisor sc.ok rfl (fun ms j sc2 ej _ _ => by
    have e : ms.map D.int = ns.map D.int := D.tup.inj (sc2.e.symm.trans sc.e)
    have e2 : ms = ns := by rw [← toI_int ms, e, toI_int]
    rw [e2, ← D.int.inj ej]
    exact q) (fun z => by rw [scr_scriptB sc] at z; cases z) fun _ z => by
      rw [whole_e, decide_eq_true hi, decide_eq_true hi2] at z
      cases z
  have hlen : (divL ns.sum).length ≤ 1000 := by
    unfold divL
    refine Nat.le_trans (List.length_filter_le _ _) ?_
    rw [List.length_map, List.length_range]
    have := sc.abs
    omega
  unfold p6_0_law
  generalize f_divisor A = φ1 at h1 ⊢
  simp [e_bodyF, e_bodyN, e_szOk, e_tSize, e_tCl, e_tClN, e_tNF, e_tSc, e_tK, e_tN, e_tR, e_t2, e_tCh, e_tBl, e_tAndB, e_tOrB, e_tNotB, e_tBV, e_tAndD, e_tOrD, e_tNotD, e_tNeg, e_tIfE, e_tIfL, e_tA0, e_tA1, e_tTupD, e_tCD, e_tItl, e_tOwn, e_tIs, e_tIx, e_tO0, e_tO1, e_tSlL, e_tSlT, e_tRev, e_tCatL, e_tRepL, e_tCatT, e_tRepT, e_tTupI, e_tTupL, e_sqD, e_nxD, e_tFz, e_tEx, e_tRt, e_tRn, e_tRo, e_tSet, e_tSetN, e_tIf, e_tRs, e_tSetG, e_tForL, e_tRg1, e_tRg2, e_tWh, e_tApp, e_tStI, e_yesD, e_tLc, e_tM0, e_tMF, e_tMN, e_tMK, e_tMT, e_tPar2, e_tPar3, e_tJoin, e_tIsE, e_tRef, e_tSrcS, e_tSrcI, e_tSrcW, e_tIxO, startD, DE.set, rdS, D.ty, isTy, fLen, fAbs, fInt, fI, fI0, gN, gT, setAll, itemsX, wipeD, MI.slot, fzD, dIx]
  refine h1 _ _ ⟨by omega, ?_⟩
  refine comp_fil (fun x => i % toI x == 0) id _ _ (fun x hx Q hQ => ?_) (fun x hx hb Q hQ => hQ) ?_
  · obtain ⟨d, hd, e⟩ := List.mem_map.mp hx
    subst e
    have hd1 := (mem_divL.mp hd).1
    simp [e_bodyF, e_bodyN, e_szOk, e_tSize, e_tCl, e_tClN, e_tNF, e_tSc, e_tK, e_tN, e_tR, e_t2, e_tCh, e_tBl, e_tAndB, e_tOrB, e_tNotB, e_tBV, e_tAndD, e_tOrD, e_tNotD, e_tNeg, e_tIfE, e_tIfL, e_tA0, e_tA1, e_tTupD, e_tCD, e_tItl, e_tOwn, e_tIs, e_tIx, e_tO0, e_tO1, e_tSlL, e_tSlT, e_tRev, e_tCatL, e_tRepL, e_tCatT, e_tRepT, e_tTupI, e_tTupL, e_sqD, e_nxD, e_tFz, e_tEx, e_tRt, e_tRn, e_tRo, e_tSet, e_tSetN, e_tIf, e_tRs, e_tSetG, e_tForL, e_tRg1, e_tRg2, e_tWh, e_tApp, e_tStI, e_yesD, e_tLc, e_tM0, e_tMF, e_tMN, e_tMK, e_tMT, e_tPar2, e_tPar3, e_tJoin, e_tIsE, e_tRef, e_tSrcS, e_tSrcI, e_tSrcW, e_tIxO, startD, DE.set, rdS, D.ty, isTy, fLen, fAbs, fInt, fI, fI0, gN, gT, setAll, itemsX, wipeD, MI.slot, fzD, dIx]
    refine ⟨by omega, dEq_ok (neg := false) ok_int ok_int ?_⟩
    rw [eqB_int]
    exact hQ
  · have e : ([] : List D) ++ List.map id (List.filter (fun x => i % toI x == 0) ((divL ns.sum).map D.int)) = ((divL ns.sum).filter fun d => i % d == 0).map D.int := by
      rw [List.nil_append, List.map_id, List.filter_map]
      rfl
    rw [e]
    obtain ⟨g1, g2⟩ := max_gcd (i := i) sc.sm
    unfold fMax
    refine onInts_mk (intsOf_map _) ⟨List.length_pos_of_mem g1, fun m hm hy => ?_⟩
    have em : m = (Int.gcd i ns.sum : Nat) := Int.le_antisymm (g2 m hm) (hy _ g1)
    refine dEq_ok (neg := true) ok_int ok_int ?_
    rw [eqB_int, em, beq_self_eq_true]
    exact h
end
end Wn

set_option Elab.async false
set_option linter.all false
set_option maxRecDepth 100000
set_option maxHeartbeats 400000
namespace Wn
open PySem PySem.Spec PyProof.Rows L2
/-- between the law's turns -/
def LI (o0 : Slot) (a : Addr) (δ : DE) : Prop := ∃ o1 o3 o4 o5 o6 o7 o8 o9 o10 o11 o12 o13 o14 o15, δ = ⟨some a, [o0, o1, .sr a, o3, o4, o5, o6, o7, o8, o9, o10, o11, o12, o13, o14, o15]⟩ ∧ ([o1, o3, o4, o5, o6, o7, o8, o9, o10, o11, o12, o13, o14, o15].all fun o => !isSr o) = true
theorem isSr_d (x : D) : isSr (.d x) = false := rfl
theorem isSr_ow (x : List D) : isSr (.ow x) = false := rfl
theorem isSr_no : isSr .no = false := rfl
theorem cpow_30 : CPow 10 30 := ⟨by omega, by omega, by omega⟩
theorem cpow_29 : CPow 10 29 := ⟨by omega, by omega, by omega⟩
theorem cpow_9 : CPow 10 9 := ⟨by omega, by omega, by omega⟩
section
variable {A : Str → Addr} {K : PySem.W.Frag} {Φ : Addr → Nat → Option Fn} {a : Addr} {Z : DEnds} {o0 o1 o2 o3 o4 o5 o6 o7 o8 o9 o10 o11 o12 o13 o14 o15 : Slot}
theorem s10 {st : D} {ns : List Int} (hN : Names K A) (hΦ : PhiOk A Φ) (sc : Scr st ns) (hs : ([o1, .d st, o4, o5, o6, o7, o8, o9, o10, o11, o12, o13, o14, o15].all fun o => !isSr o) = true) (hZ : ∀ δ', LI o0 a δ' → Z.nx δ') :
    p2_10_law A K Φ ⟨some a, [o0, o1, .sr a, .d st, o4, o5, o6, o7, o8, o9, o10, o11, o12, o13, o14, o15]⟩ Z := by
  have body : ∀ (x : D) (o6 : Slot) (Z : DEnds), x.ty.isSome = true → whole x 24 1000000000000000000000000000000 = false → Z.nx ⟨some a, [o0, o1, .sr a, .d st, o4, o5, .d x, o7, o8, o9, o10, o11, o12, o13, o14, o15]⟩ → p8_0_law A K Φ ⟨some a, [o0, o1, .sr a, .d st, o4, o5, .d x, o7, o8, o9, o10, o11, o12, o13, o14, o15]⟩ Z := fun x o6 Z h1 h2 h3 => l8 hN hΦ sc h1 h2 h3
  unfold p2_10_law
  generalize p8_0_law A K Φ = ψ at body ⊢
  simp [e_bodyF, e_bodyN, e_szOk, e_tSize, e_tCl, e_tClN, e_tNF, e_tSc, e_tK, e_tN, e_tR, e_t2, e_tCh, e_tBl, e_tAndB, e_tOrB, e_tNotB, e_tBV, e_tAndD, e_tOrD, e_tNotD, e_tNeg, e_tIfE, e_tIfL, e_tA0, e_tA1, e_tTupD, e_tCD, e_tItl, e_tOwn, e_tIs, e_tIx, e_tO0, e_tO1, e_tSlL, e_tSlT, e_tRev, e_tCatL, e_tRepL, e_tCatT, e_tRepT, e_tTupI, e_tTupL, e_sqD, e_nxD, e_tFz, e_tEx, e_tRt, e_tRn, e_tRo, e_tSet, e_tSetN, e_tIf, e_tRs, e_tSetG, e_tForL, e_tRg1, e_tRg2, e_tWh, e_tApp, e_tStI, e_yesD, e_tLc, e_tM0, e_tMF, e_tMN, e_tMK, e_tMT, e_tPar2, e_tPar3, e_tJoin, e_tIsE, e_tRef, e_tSrcS, e_tSrcI, e_tSrcW, e_tIxO, startD, DE.set, rdS, D.ty, isTy, fLen, fAbs, fInt, fI, fI0, gN, gT, setAll, itemsX, wipeD, MI.slot, fzD, dIx]
  refine ⟨cpow_30, ?_⟩
  refine loop_inv (fun δ => ∃ o6, isSr o6 = false ∧ δ = ⟨some a, [o0, o1, .sr a, .d st, o4, o5, o6, o7, o8, o9, o10, o11, o12, o13, o14, o15]⟩) _ _ ⟨o6, ?_, rfl⟩ (fun δ ⟨o6, e1, e2⟩ => hZ δ ⟨_, _, _, _, o6, _, _, _, _, _, _, _, _, _, e2, ?_⟩) fun x hx δ ⟨o6, e1, e2⟩ K hK => ?_
  · simp at hs
    exact hs.2.2.2.2.1
  · simp [e1] at hs ⊢
    exact ⟨hs.1, hs.2.1, hs.2.2.1, hs.2.2.2.1, hs.2.2.2.2.2⟩
  · subst e2
    have fin := hK _ ⟨.d x, rfl, rfl⟩
    simp only [List.mem_cons, List.not_mem_nil, or_false] at hx
    refine body x o6 _ ?_ ?_ fin
    · rcases hx with e | e | e | e | e <;> subst e <;> rfl
    · rcases hx with e | e | e | e | e <;> subst e <;> decide +kernel
theorem s9 {st : D} {ns : List Int} (hN : Names K A) (hΦ : PhiOk A Φ) (sc : Scr st ns) (hs : ([o1, .d st, o4, o5, o6, o7, o8, o9, o10, o11, o12, o13, o14, o15].all fun o => !isSr o) = true) (hZ : ∀ δ', LI o0 a δ' → Z.nx δ') :
    p2_9_law A K Φ ⟨some a, [o0, o1, .sr a, .d st, o4, o5, o6, o7, o8, o9, o10, o11, o12, o13, o14, o15]⟩ Z := by
  have body : ∀ (x : D) (o14 : Slot) (Z : DEnds), D.ok 64 x = true → scriptB x = false → (∀ f, Z.nx ⟨some a, [o0, o1, .sr a, .d st, o4, o5, .d x, o7, o8, o9, o10, o11, o12, o13, .d f, o15]⟩) → p7_0_law A K Φ ⟨some a, [o0, o1, .sr a, .d st, o4, o5, .d x, o7, o8, o9, o10, o11, o12, o13, o14, o15]⟩ Z := fun x o14 Z h1 h2 h3 => l7 hN hΦ h1 h2 h3
  have rest : ∀ o6 o14, isSr o6 = false → isSr o14 = false → p2_10_law A K Φ ⟨some a, [o0, o1, .sr a, .d st, o4, o5, o6, o7, o8, o9, o10, o11, o12, o13, o14, o15]⟩ Z := fun o6 o14 h6 h14 => s10 hN hΦ sc (by simp [h6, h14] at hs ⊢; exact ⟨hs.1, hs.2.1, hs.2.2.1, hs.2.2.2.1, hs.2.2.2.2.2.1, hs.2.2.2.2.2.2.1, hs.2.2.2.2.2.2.2.1, hs.2.2.2.2.2.2.2.2.1, hs.2.2.2.2.2.2.2.2.2.1, hs.2.2.2.2.2.2.2.2.2.2.1, hs.2.2.2.2.2.2.2.2.2.2.2.1, hs.2.2.2.2.2.2.2.2.2.2.2.2.2⟩) hZ
  have h6 : isSr o6 = false ∧ isSr o14 = false := by
    simp at hs
    exact ⟨hs.2.2.2.2.1, hs.2.2.2.2.2.2.2.2.2.2.2.2.1⟩
  unfold p2_9_law
  generalize p7_0_law A K Φ = ψ at body ⊢
  generalize p2_10_law A K Φ = χ at rest ⊢
  simp [e_bodyF, e_bodyN, e_szOk, e_tSize, e_tCl, e_tClN, e_tNF, e_tSc, e_tK, e_tN, e_tR, e_t2, e_tCh, e_tBl, e_tAndB, e_tOrB, e_tNotB, e_tBV, e_tAndD, e_tOrD, e_tNotD, e_tNeg, e_tIfE, e_tIfL, e_tA0, e_tA1, e_tTupD, e_tCD, e_tItl, e_tOwn, e_tIs, e_tIx, e_tO0, e_tO1, e_tSlL, e_tSlT, e_tRev, e_tCatL, e_tRepL, e_tCatT, e_tRepT, e_tTupI, e_tTupL, e_sqD, e_nxD, e_tFz, e_tEx, e_tRt, e_tRn, e_tRo, e_tSet, e_tSetN, e_tIf, e_tRs, e_tSetG, e_tForL, e_tRg1, e_tRg2, e_tWh, e_tApp, e_tStI, e_yesD, e_tLc, e_tM0, e_tMF, e_tMN, e_tMK, e_tMT, e_tPar2, e_tPar3, e_tJoin, e_tIsE, e_tRef, e_tSrcS, e_tSrcI, e_tSrcW, e_tIxO, startD, DE.set, rdS, D.ty, isTy, fLen, fAbs, fInt, fI, fI0, gN, gT, setAll, itemsX, wipeD, MI.slot, fzD, dIx]
  rw [sc.e]
  simp only []
  refine loop_inv (fun δ => ∃ o6 o14, isSr o6 = false ∧ isSr o14 = false ∧ δ = ⟨some a, [o0, o1, .sr a, .d st, o4, o5, o6, o7, o8, o9, o10, o11, o12, o13, o14, o15]⟩) _ _ ⟨o6, o14, h6.1, h6.2, by rw [sc.e]⟩ (fun δ ⟨o6, o14, e1, e2, e3⟩ => ?_) fun x hx δ ⟨o6, o14, e1, e2, e3⟩ K hK => ?_
  · rw [e3]
    exact rest o6 o14 e1 e2
  · subst e3
    simp only [List.mem_cons, List.not_mem_nil, or_false] at hx
    refine body x o14 _ ?_ ?_ fun f => hK _ ⟨.d x, .d f, rfl, rfl, rfl⟩
    · rcases hx with e | e | e | e | e | e <;> subst e <;> first
        | rfl
        | exact ok_lstI ns
    · rcases hx with e | e | e | e | e | e <;> subst e <;> first
        | rfl
        | decide +kernel
theorem s8 {st : D} {ns : List Int} (hN : Names K A) (hΦ : PhiOk A Φ) (sc : Scr st ns) (hs : ([o1, .d st, o4, o5, o6, o7, .d (.int ns.sum.natAbs), .d (.lst ((divL ns.sum).map D.int)), o10, o11, o12, o13, o14, o15].all fun o => !isSr o) = true) (hZ : ∀ δ', LI o0 a δ' → Z.nx δ') :
    p2_8_law A K Φ ⟨some a, [o0, o1, .sr a, .d st, o4, o5, o6, o7, .d (.int ns.sum.natAbs), .d (.lst ((divL ns.sum).map D.int)), o10, o11, o12, o13, o14, o15]⟩ Z := by
  have body : ∀ (i : Int) (Z : DEnds), 24 ≤ i → i ≤ 1000000000000000000000000000000 → Z.nx ⟨some a, [o0, o1, .sr a, .d st, o4, o5, o6, o7, .d (.int ns.sum.natAbs), .d (.lst ((divL ns.sum).map D.int)), o10, o11, o12, .d (.int i), o14, o15]⟩ → p6_0_law A K Φ ⟨some a, [o0, o1, .sr a, .d st, o4, o5, o6, o7, .d (.int ns.sum.natAbs), .d (.lst ((divL ns.sum).map D.int)), o10, o11, o12, .d (.int i), o14, o15]⟩ Z := fun i Z h1 h2 h3 => l6 sc h1 h2 h3
  have rest : ∀ o13, isSr o13 = false → p2_9_law A K Φ ⟨some a, [o0, o1, .sr a, .d st, o4, o5, o6, o7, .d (.int ns.sum.natAbs), .d (.lst ((divL ns.sum).map D.int)), o10, o11, o12, o13, o14, o15]⟩ Z := fun o13 h13 => s9 hN hΦ sc (by
    simp [h13, isSr_d] at hs ⊢
    simp [hs]) hZ
  have h13 : isSr o13 = false := by
    simp [isSr_d] at hs
    simp [hs]
  have hp : ∀ (n : Int) (P : D → Prop) (EP : Addr → Prop), 0 < n → n < 1073741824 → (∀ i, 0 ≤ i → i < n → P (.int i)) → f__law_pick A (some a) [.ref a, .int n] P EP := fun n P EP h1 h2 h3 => q_pick rfl h1 h2 h3
  have hb := sc.abs
  have h0 := sc.sm
  unfold p2_8_law
  generalize p6_0_law A K Φ = ψ at body ⊢
  generalize p2_9_law A K Φ = χ at rest ⊢
  generalize f__law_pick A = φp at hp ⊢
  simp [e_bodyF, e_bodyN, e_szOk, e_tSize, e_tCl, e_tClN, e_tNF, e_tSc, e_tK, e_tN, e_tR, e_t2, e_tCh, e_tBl, e_tAndB, e_tOrB, e_tNotB, e_tBV, e_tAndD, e_tOrD, e_tNotD, e_tNeg, e_tIfE, e_tIfL, e_tA0, e_tA1, e_tTupD, e_tCD, e_tItl, e_tOwn, e_tIs, e_tIx, e_tO0, e_tO1, e_tSlL, e_tSlT, e_tRev, e_tCatL, e_tRepL, e_tCatT, e_tRepT, e_tTupI, e_tTupL, e_sqD, e_nxD, e_tFz, e_tEx, e_tRt, e_tRn, e_tRo, e_tSet, e_tSetN, e_tIf, e_tRs, e_tSetG, e_tForL, e_tRg1, e_tRg2, e_tWh, e_tApp, e_tStI, e_yesD, e_tLc, e_tM0, e_tMF, e_tMN, e_tMK, e_tMT, e_tPar2, e_tPar3, e_tJoin, e_tIsE, e_tRef, e_tSrcS, e_tSrcI, e_tSrcW, e_tIxO, startD, DE.set, rdS, D.ty, isTy, fLen, fAbs, fInt, fI, fI0, gN, gT, setAll, itemsX, wipeD, MI.slot, fzD, dIx]
  refine hp _ _ _ (by omega) (by omega) fun u hu hu2 => ?_
  refine i_dAdd ⟨cmul_r (by omega) (by omega), cpow_30, cpow_29, cpow_9, hp _ _ _ (by omega) (by omega) fun w hw hw2 => i_dAdd ?_⟩
  have all : ∀ x ∈ [D.int 24, .int (24 + u), .int ((ns.sum.natAbs : Int) * 24), .int 1000000000000000000000000000000, .int (100000000000000000000000000000 + w)], ∃ i : Int, x = .int i ∧ 24 ≤ i ∧ i ≤ 1000000000000000000000000000000 := fun x hx => by
    simp only [List.mem_cons, List.not_mem_nil, or_false] at hx
    rcases hx with e | e | e | e | e <;> subst e <;> exact ⟨_, rfl, by omega, by omega⟩
  refine loop_inv (fun δ => ∃ o13, isSr o13 = false ∧ δ = ⟨some a, [o0, o1, .sr a, .d st, o4, o5, o6, o7, .d (.int ns.sum.natAbs), .d (.lst ((divL ns.sum).map D.int)), o10, o11, o12, o13, o14, o15]⟩) _ _ ⟨o13, h13, rfl⟩ (fun δ ⟨o13, e1, e2⟩ => ?_) fun x hx δ ⟨o13, e1, e2⟩ K hK => ?_
  · rw [e2]
    exact rest o13 e1
  · subst e2
    obtain ⟨i, e, b1, b2⟩ := all x hx
    subst e
    exact body i _ b1 b2 (hK _ ⟨_, rfl, rfl⟩)
theorem s7 {st : D} {ns : List Int} (hN : Names K A) (hΦ : PhiOk A Φ) (sc : Scr st ns) (hs : ([o1, .d st, o4, o5, o6, o7, .d (.int ns.sum.natAbs), .d (.lst ((divL ns.sum).map D.int)), o10, o11, o12, o13, o14, o15].all fun o => !isSr o) = true) (hZ : ∀ δ', LI o0 a δ' → Z.nx δ') :
    p2_7_law A K Φ ⟨some a, [o0, o1, .sr a, .d st, o4, o5, o6, o7, .d (.int ns.sum.natAbs), .d (.lst ((divL ns.sum).map D.int)), o10, o11, o12, o13, o14, o15]⟩ Z := by
  have body : ∀ (o11 o12 : Slot) (Z : DEnds), (∀ xs, Z.nx ⟨some a, [o0, o1, .sr a, .d st, o4, o5, o6, o7, .d (.int ns.sum.natAbs), .d (.lst ((divL ns.sum).map D.int)), o10, o11, .ow xs, o13, o14, o15]⟩) → p5_0_law A K Φ ⟨some a, [o0, o1, .sr a, .d st, o4, o5, o6, o7, .d (.int ns.sum.natAbs), .d (.lst ((divL ns.sum).map D.int)), o10, o11, o12, o13, o14, o15]⟩ Z := fun o11 o12 Z h3 => l5 sc h3
  have rest : ∀ o11 o12, isSr o11 = false → isSr o12 = false → p2_8_law A K Φ ⟨some a, [o0, o1, .sr a, .d st, o4, o5, o6, o7, .d (.int ns.sum.natAbs), .d (.lst ((divL ns.sum).map D.int)), o10, o11, o12, o13, o14, o15]⟩ Z := fun o11 o12 h11 h12 => s8 hN hΦ sc (by
    simp [h11, h12, isSr_d] at hs ⊢
    simp [hs]) hZ
  have h13 : isSr o11 = false ∧ isSr o12 = false := by
    simp [isSr_d] at hs
    simp [hs]
  unfold p2_7_law
  generalize p5_0_law A K Φ = ψ at body ⊢
  generalize p2_8_law A K Φ = χ at rest ⊢
  simp [e_bodyF, e_bodyN, e_szOk, e_tSize, e_tCl, e_tClN, e_tNF, e_tSc, e_tK, e_tN, e_tR, e_t2, e_tCh, e_tBl, e_tAndB, e_tOrB, e_tNotB, e_tBV, e_tAndD, e_tOrD, e_tNotD, e_tNeg, e_tIfE, e_tIfL, e_tA0, e_tA1, e_tTupD, e_tCD, e_tItl, e_tOwn, e_tIs, e_tIx, e_tO0, e_tO1, e_tSlL, e_tSlT, e_tRev, e_tCatL, e_tRepL, e_tCatT, e_tRepT, e_tTupI, e_tTupL, e_sqD, e_nxD, e_tFz, e_tEx, e_tRt, e_tRn, e_tRo, e_tSet, e_tSetN, e_tIf, e_tRs, e_tSetG, e_tForL, e_tRg1, e_tRg2, e_tWh, e_tApp, e_tStI, e_yesD, e_tLc, e_tM0, e_tMF, e_tMN, e_tMK, e_tMT, e_tPar2, e_tPar3, e_tJoin, e_tIsE, e_tRef, e_tSrcS, e_tSrcI, e_tSrcW, e_tIxO, startD, DE.set, rdS, D.ty, isTy, fLen, fAbs, fInt, fI, fI0, gN, gT, setAll, itemsX, wipeD, MI.slot, fzD, dIx]
  refine loop_inv (fun δ => ∃ o11 o12, isSr o11 = false ∧ isSr o12 = false ∧ δ = ⟨some a, [o0, o1, .sr a, .d st, o4, o5, o6, o7, .d (.int ns.sum.natAbs), .d (.lst ((divL ns.sum).map D.int)), o10, o11, o12, o13, o14, o15]⟩) _ _ ⟨o11, o12, h13.1, h13.2, rfl⟩ (fun δ ⟨o11, o12, e1, e3, e2⟩ => ?_) fun x hx δ ⟨o11, o12, e1, e3, e2⟩ K hK => ?_
  · rw [e2]
    exact rest o11 o12 e1 e3
  · subst e2
    exact body (.d x) o12 _ fun xs => hK _ ⟨_, _, rfl, rfl, rfl⟩
theorem s6 {st : D} {ns : List Int} (hN : Names K A) (hΦ : PhiOk A Φ) (sc : Scr st ns) (hs : ([o1, .d st, o4, o5, o6, o7, .d (.int ns.sum.natAbs), o9, o10, o11, o12, o13, o14, o15].all fun o => !isSr o) = true) (hZ : ∀ δ', LI o0 a δ' → Z.nx δ') :
    p2_6_law A K Φ ⟨some a, [o0, o1, .sr a, .d st, o4, o5, o6, o7, .d (.int ns.sum.natAbs), o9, o10, o11, o12, o13, o14, o15]⟩ Z := by
  have rest : ∀ o10, isSr o10 = false → p2_7_law A K Φ ⟨some a, [o0, o1, .sr a, .d st, o4, o5, o6, o7, .d (.int ns.sum.natAbs), .d (.lst ((divL ns.sum).map D.int)), o10, o11, o12, o13, o14, o15]⟩ Z := fun o10 h10 => s7 hN hΦ sc (by
    simp [h10, isSr_d] at hs ⊢
    simp [hs]) hZ
  have h10 : isSr o10 = false := by
    simp [isSr_d] at hs
    simp [hs]
  have hb := sc.abs
  unfold p2_6_law
  generalize p2_7_law A K Φ = χ at rest ⊢
  simp [e_bodyF, e_bodyN, e_szOk, e_tSize, e_tCl, e_tClN, e_tNF, e_tSc, e_tK, e_tN, e_tR, e_t2, e_tCh, e_tBl, e_tAndB, e_tOrB, e_tNotB, e_tBV, e_tAndD, e_tOrD, e_tNotD, e_tNeg, e_tIfE, e_tIfL, e_tA0, e_tA1, e_tTupD, e_tCD, e_tItl, e_tOwn, e_tIs, e_tIx, e_tO0, e_tO1, e_tSlL, e_tSlT, e_tRev, e_tCatL, e_tRepL, e_tCatT, e_tRepT, e_tTupI, e_tTupL, e_sqD, e_nxD, e_tFz, e_tEx, e_tRt, e_tRn, e_tRo, e_tSet, e_tSetN, e_tIf, e_tRs, e_tSetG, e_tForL, e_tRg1, e_tRg2, e_tWh, e_tApp, e_tStI, e_yesD, e_tLc, e_tM0, e_tMF, e_tMN, e_tMK, e_tMT, e_tPar2, e_tPar3, e_tJoin, e_tIsE, e_tRef, e_tSrcS, e_tSrcI, e_tSrcW, e_tIxO, startD, DE.set, rdS, D.ty, isTy, fLen, fAbs, fInt, fI, fI0, gN, gT, setAll, itemsX, wipeD, MI.slot, fzD, dIx]
  refine ⟨⟨by omega, by omega⟩, by rw [rgD_len]; omega, comp_fil (fun x => (ns.sum.natAbs : Int) % toI x == 0) id _ _ (fun x hx Q hQ => ?_) (fun x hx hb Q hQ => hQ) ?_⟩
  · obtain ⟨k, hk, e⟩ := rgD_mem hx
    subst e
    simp [e_bodyF, e_bodyN, e_szOk, e_tSize, e_tCl, e_tClN, e_tNF, e_tSc, e_tK, e_tN, e_tR, e_t2, e_tCh, e_tBl, e_tAndB, e_tOrB, e_tNotB, e_tBV, e_tAndD, e_tOrD, e_tNotD, e_tNeg, e_tIfE, e_tIfL, e_tA0, e_tA1, e_tTupD, e_tCD, e_tItl, e_tOwn, e_tIs, e_tIx, e_tO0, e_tO1, e_tSlL, e_tSlT, e_tRev, e_tCatL, e_tRepL, e_tCatT, e_tRepT, e_tTupI, e_tTupL, e_sqD, e_nxD, e_tFz, e_tEx, e_tRt, e_tRn, e_tRo, e_tSet, e_tSetN, e_tIf, e_tRs, e_tSetG, e_tForL, e_tRg1, e_tRg2, e_tWh, e_tApp, e_tStI, e_yesD, e_tLc, e_tM0, e_tMF, e_tMN, e_tMK, e_tMT, e_tPar2, e_tPar3, e_tJoin, e_tIsE, e_tRef, e_tSrcS, e_tSrcI, e_tSrcW, e_tIxO, startD, DE.set, rdS, D.ty, isTy, fLen, fAbs, fInt, fI, fI0, gN, gT, setAll, itemsX, wipeD, MI.slot, fzD, dIx]
    refine ⟨by omega, dEq_ok (neg := false) ok_int ok_int ?_⟩
    rw [eqB_int]
    exact hQ
  · have e : ([] : List D) ++ List.map id (List.filter (fun x => (ns.sum.natAbs : Int) % toI x == 0) (rgD 1 ns.sum.natAbs)) = (divL ns.sum).map D.int := by
      rw [List.nil_append, List.map_id]
      unfold divL rgD
      rw [List.filter_map, List.filter_map, List.map_map]
      rfl
    rw [e]
    exact rest _ h10
theorem s5 {st : D} {ns : List Int} (hN : Names K A) (hΦ : PhiOk A Φ) (sc : Scr st ns) (hs : ([o1, .d st, o4, o5, o6, o7, o8, o9, o10, o11, o12, o13, o14, o15].all fun o => !isSr o) = true) (hZ : ∀ δ', LI o0 a δ' → Z.nx δ') :
    p2_5_law A K Φ ⟨some a, [o0, o1, .sr a, .d st, o4, o5, o6, o7, o8, o9, o10, o11, o12, o13, o14, o15]⟩ Z := by
  have rest : p2_6_law A K Φ ⟨some a, [o0, o1, .sr a, .d st, o4, o5, o6, o7, .d (.int ns.sum.natAbs), o9, o10, o11, o12, o13, o14, o15]⟩ Z := s6 hN hΦ sc (by
    simp [isSr_d] at hs ⊢
    simp [hs]) hZ
  unfold p2_5_law
  generalize p2_6_law A K Φ = χ at rest ⊢
  simp [e_bodyF, e_bodyN, e_szOk, e_tSize, e_tCl, e_tClN, e_tNF, e_tSc, e_tK, e_tN, e_tR, e_t2, e_tCh, e_tBl, e_tAndB, e_tOrB, e_tNotB, e_tBV, e_tAndD, e_tOrD, e_tNotD, e_tNeg, e_tIfE, e_tIfL, e_tA0, e_tA1, e_tTupD, e_tCD, e_tItl, e_tOwn, e_tIs, e_tIx, e_tO0, e_tO1, e_tSlL, e_tSlT, e_tRev, e_tCatL, e_tRepL, e_tCatT, e_tRepT, e_tTupI, e_tTupL, e_sqD, e_nxD, e_tFz, e_tEx, e_tRt, e_tRn, e_tRo, e_tSet, e_tSetN, e_tIf, e_tRs, e_tSetG, e_tForL, e_tRg1, e_tRg2, e_tWh, e_tApp, e_tStI, e_yesD, e_tLc, e_tM0, e_tMF, e_tMN, e_tMK, e_tMT, e_tPar2, e_tPar3, e_tJoin, e_tIsE, e_tRef, e_tSrcS, e_tSrcI, e_tSrcW, e_tIxO, startD, DE.set, rdS, D.ty, isTy, fLen, fAbs, fInt, fI, fI0, gN, gT, setAll, itemsX, wipeD, MI.slot, fzD, dIx]
  unfold fSum
  rw [sc.e] at rest ⊢
  refine onInts_mkT (intsOf_map ns) ?_
  simp only [abs_e]
  exact rest
theorem s4 {st : D} {ns : List Int} {xs : List D} (hN : Names K A) (hΦ : PhiOk A Φ) (sc : Scr st ns) (hl : xs.length ≤ 1000) (hx : ∀ x ∈ xs, D.ok 60 x = true) (hs : ([o1, .d st, .ow xs, o5, o6, o7, o8, o9, o10, o11, o12, o13, o14, o15].all fun o => !isSr o) = true) (hZ : ∀ δ', LI o0 a δ' → Z.nx δ') :
    p2_4_law A K Φ ⟨some a, [o0, o1, .sr a, .d st, .ow xs, o5, o6, o7, o8, o9, o10, o11, o12, o13, o14, o15]⟩ Z := by
  have rest : ∀ o7, isSr o7 = false → p2_5_law A K Φ ⟨some a, [o0, o1, .sr a, .d st, .ow xs, o5, o6, o7, o8, o9, o10, o11, o12, o13, o14, o15]⟩ Z := fun o7 h7 => s5 hN hΦ sc (by
    simp [h7, isSr_d, isSr_ow] at hs ⊢
    simp [hs]) hZ
  have h7 : isSr o7 = false := by
    simp [isSr_d, isSr_ow] at hs
    simp [hs]
  have body : ∀ (v : D) (Z : DEnds), D.ok 64 v = true → Z.nx ⟨some a, [o0, o1, .sr a, .d st, .ow xs, o5, o6, .d v, o8, o9, o10, o11, o12, o13, o14, o15]⟩ → p4_0_law A K Φ ⟨some a, [o0, o1, .sr a, .d st, .ow xs, o5, o6, .d v, o8, o9, o10, o11, o12, o13, o14, o15]⟩ Z := fun v Z h1 h2 => l4 h1 h2
  have ha : ∀ (P : D → Prop) (EP : Addr → Prop), (∀ v, D.wid 14 4 v = true → P v) → r__law_any_value A 4 (some a) [.ref a, .int 3] P EP := fun P EP h => q_any rfl 4 3 P EP (by omega) (by omega) h
  unfold p2_4_law
  generalize p4_0_law A K Φ = ψ at body ⊢
  generalize p2_5_law A K Φ = χ at rest ⊢
  generalize r__law_any_value A 4 = φ at ha ⊢
  simp [e_bodyF, e_bodyN, e_szOk, e_tSize, e_tCl, e_tClN, e_tNF, e_tSc, e_tK, e_tN, e_tR, e_t2, e_tCh, e_tBl, e_tAndB, e_tOrB, e_tNotB, e_tBV, e_tAndD, e_tOrD, e_tNotD, e_tNeg, e_tIfE, e_tIfL, e_tA0, e_tA1, e_tTupD, e_tCD, e_tItl, e_tOwn, e_tIs, e_tIx, e_tO0, e_tO1, e_tSlL, e_tSlT, e_tRev, e_tCatL, e_tRepL, e_tCatT, e_tRepT, e_tTupI, e_tTupL, e_sqD, e_nxD, e_tFz, e_tEx, e_tRt, e_tRn, e_tRo, e_tSet, e_tSetN, e_tIf, e_tRs, e_tSetG, e_tForL, e_tRg1, e_tRg2, e_tWh, e_tApp, e_tStI, e_yesD, e_tLc, e_tM0, e_tMF, e_tMN, e_tMK, e_tMT, e_tPar2, e_tPar3, e_tJoin, e_tIsE, e_tRef, e_tSrcS, e_tSrcI, e_tSrcW, e_tIxO, startD, DE.set, rdS, D.ty, isTy, fLen, fAbs, fInt, fI, fI0, gN, gT, setAll, itemsX, wipeD, MI.slot, fzD, dIx]
  refine ha _ _ fun v hv => ⟨by omega, ?_⟩
  refine loop_inv (fun δ => ∃ o7, isSr o7 = false ∧ δ = ⟨some a, [o0, o1, .sr a, .d st, .ow xs, o5, o6, o7, o8, o9, o10, o11, o12, o13, o14, o15]⟩) _ _ ⟨o7, h7, rfl⟩ (fun δ ⟨o7, e1, e2⟩ => ?_) fun x hx2 δ ⟨o7, e1, e2⟩ K hK => ?_
  · rw [e2]
    exact rest o7 e1
  · subst e2
    refine body x _ ?_ (hK _ ⟨_, rfl, rfl⟩)
    rcases List.mem_append.mp hx2 with q | q
    · exact D.ok_mono 60 64 x (by omega) (hx x q)
    · rw [List.mem_singleton.mp q]
      exact D.ok_mono 4 64 v (by omega) (wid_ok 4 v hv)
theorem s3 {st : D} {ns : List Int} {xs : List D} (hN : Names K A) (hΦ : PhiOk A Φ) (sc : Scr st ns) (hl : xs.length ≤ 100) (hx : ∀ x ∈ xs, D.ok 60 x = true) (hs : ([o1, .d st, .ow xs, o5, o6, o7, o8, o9, o10, o11, o12, o13, o14, o15].all fun o => !isSr o) = true) (hZ : ∀ δ', LI o0 a δ' → Z.nx δ') :
    p2_3_law A K Φ ⟨some a, [o0, o1, .sr a, .d st, .ow xs, o5, o6, o7, o8, o9, o10, o11, o12, o13, o14, o15]⟩ Z := by
  have rest : ∀ o5 o6 xs, isSr o5 = false → isSr o6 = false → xs.length ≤ 1000 → (∀ x ∈ xs, D.ok 60 x = true) → p2_4_law A K Φ ⟨some a, [o0, o1, .sr a, .d st, .ow xs, o5, o6, o7, o8, o9, o10, o11, o12, o13, o14, o15]⟩ Z := fun o5 o6 xs h5 h6 hl hx => s4 hN hΦ sc hl hx (by
    simp [h5, h6, isSr_d, isSr_ow] at hs ⊢
    simp [hs]) hZ
  have h5 : isSr o5 = false ∧ isSr o6 = false := by
    simp [isSr_d, isSr_ow] at hs
    simp [hs]
  have body : ∀ (o5 o6 : Slot) (xs : List D) (Z : DEnds), xs.length ≤ 1000 → (∀ x ∈ xs, D.ok 60 x = true) → (∀ odd xs', xs'.length ≤ xs.length + 2 → (∀ x ∈ xs', D.ok 60 x = true) → Z.nx ⟨some a, [o0, o1, .sr a, .d st, .ow xs', o5, .d odd, o7, o8, o9, o10, o11, o12, o13, o14, o15]⟩) → p3_0_law A K Φ ⟨some a, [o0, o1, .sr a, .d st, .ow xs, o5, o6, o7, o8, o9, o10, o11, o12, o13, o14, o15]⟩ Z := fun o5 o6 xs Z h1 h2 h3 => by
    rw [sc.e] at h3 ⊢
    exact l3 (by have := sc.l2; omega) h1 h2 h3
  unfold p2_3_law
  generalize p3_0_law A K Φ = ψ at body ⊢
  generalize p2_4_law A K Φ = χ at rest ⊢
  simp [e_bodyF, e_bodyN, e_szOk, e_tSize, e_tCl, e_tClN, e_tNF, e_tSc, e_tK, e_tN, e_tR, e_t2, e_tCh, e_tBl, e_tAndB, e_tOrB, e_tNotB, e_tBV, e_tAndD, e_tOrD, e_tNotD, e_tNeg, e_tIfE, e_tIfL, e_tA0, e_tA1, e_tTupD, e_tCD, e_tItl, e_tOwn, e_tIs, e_tIx, e_tO0, e_tO1, e_tSlL, e_tSlT, e_tRev, e_tCatL, e_tRepL, e_tCatT, e_tRepT, e_tTupI, e_tTupL, e_sqD, e_nxD, e_tFz, e_tEx, e_tRt, e_tRn, e_tRo, e_tSet, e_tSetN, e_tIf, e_tRs, e_tSetG, e_tForL, e_tRg1, e_tRg2, e_tWh, e_tApp, e_tStI, e_yesD, e_tLc, e_tM0, e_tMF, e_tMN, e_tMK, e_tMT, e_tPar2, e_tPar3, e_tJoin, e_tIsE, e_tRef, e_tSrcS, e_tSrcI, e_tSrcW, e_tIxO, startD, DE.set, rdS, D.ty, isTy, fLen, fAbs, fInt, fI, fI0, gN, gT, setAll, itemsX, wipeD, MI.slot, fzD, dIx]
  refine loop_pre (rgD 0 30) (fun k δ => ∃ o5 o6 ys, isSr o5 = false ∧ isSr o6 = false ∧ ys.length ≤ 100 + 2 * k ∧ (∀ x ∈ ys, D.ok 60 x = true) ∧ δ = ⟨some a, [o0, o1, .sr a, .d st, .ow ys, o5, o6, o7, o8, o9, o10, o11, o12, o13, o14, o15]⟩) 0 _ (Nat.zero_le _) ⟨o5, o6, xs, h5.1, h5.2, by omega, hx, rfl⟩ (fun δ ⟨o5, o6, ys, e1, e2, e3, e4, e5⟩ => ?_) fun k x hxk δ ⟨o5, o6, ys, e1, e2, e3, e4, e5⟩ K hK => ?_
  · rw [e5]
    rw [rgD_len] at e3
    exact rest o5 o6 ys e1 e2 (by omega) e4
  · subst e5
    have hk : k < 30 := by
      have := (List.getElem?_eq_some_iff.mp hxk).1
      rw [rgD_len] at this
      exact this
    refine body (.d x) o6 ys _ (by omega) e4 fun odd xs' l' x' => hK _ ⟨.d x, .d odd, xs', rfl, rfl, by omega, x', rfl⟩
end
end Wn

set_option Elab.async false
set_option linter.all false
set_option maxRecDepth 100000
set_option maxHeartbeats 400000
namespace Wn
open PySem PySem.Spec PyProof.Rows L2
def cutI (ns : List Int) : List Int := (ns.drop (HT.sIx ns.length 0 none)).take (HT.sIx ns.length ns.length (some 0) - HT.sIx ns.length 0 none)
theorem cutI_e (ns : List Int) : cutD (ns.map D.int) none (some 0) = (cutI ns).map D.int := by
  unfold cutD cutI
  rw [List.length_map, List.map_take, List.map_drop]
section
variable {A : Str → Addr} {K : PySem.W.Frag} {Φ : Addr → Nat → Option Fn} {a : Addr} {Z : DEnds} {o0 o1 o2 o3 o4 o5 o6 o7 o8 o9 o10 o11 o12 o13 o14 o15 : Slot}
theorem s2 {st : D} {ns : List Int} (hN : Names K A) (hΦ : PhiOk A Φ) (sc : Scr st ns) (hs : ([o1, .d st, o4, o5, o6, o7, o8, o9, o10, o11, o12, o13, o14, o15].all fun o => !isSr o) = true) (hZ : ∀ δ', LI o0 a δ' → Z.nx δ') :
    p2_2_law A K Φ ⟨some a, [o0, o1, .sr a, .d st, o4, o5, o6, o7, o8, o9, o10, o11, o12, o13, o14, o15]⟩ Z := by
  have rest : ∀ xs, xs.length ≤ 100 → (∀ x ∈ xs, D.ok 60 x = true) → p2_3_law A K Φ ⟨some a, [o0, o1, .sr a, .d st, .ow xs, o5, o6, o7, o8, o9, o10, o11, o12, o13, o14, o15]⟩ Z := fun xs hl hx => s3 hN hΦ sc hl hx (by
    simp [isSr_d, isSr_ow] at hs ⊢
    simp [hs]) hZ
  have l2 := sc.l2
  unfold p2_2_law
  generalize p2_3_law A K Φ = χ at rest ⊢
  rw [sc.e] at rest ⊢
  simp [e_bodyF, e_bodyN, e_szOk, e_tSize, e_tCl, e_tClN, e_tNF, e_tSc, e_tK, e_tN, e_tR, e_t2, e_tCh, e_tBl, e_tAndB, e_tOrB, e_tNotB, e_tBV, e_tAndD, e_tOrD, e_tNotD, e_tNeg, e_tIfE, e_tIfL, e_tA0, e_tA1, e_tTupD, e_tCD, e_tItl, e_tOwn, e_tIs, e_tIx, e_tO0, e_tO1, e_tSlL, e_tSlT, e_tRev, e_tCatL, e_tRepL, e_tCatT, e_tRepT, e_tTupI, e_tTupL, e_sqD, e_nxD, e_tFz, e_tEx, e_tRt, e_tRn, e_tRo, e_tSet, e_tSetN, e_tIf, e_tRs, e_tSetG, e_tForL, e_tRg1, e_tRg2, e_tWh, e_tApp, e_tStI, e_yesD, e_tLc, e_tM0, e_tMF, e_tMN, e_tMK, e_tMT, e_tPar2, e_tPar3, e_tJoin, e_tIsE, e_tRef, e_tSrcS, e_tSrcI, e_tSrcW, e_tIxO, startD, DE.set, rdS, D.ty, isTy, fLen, fAbs, fInt, fI, fI0, gN, gT, setAll, itemsX, wipeD, MI.slot, fzD, dIx]
  refine ⟨by omega, ?_⟩
  unfold fSum
  refine onInts_mkT (intsOf_map ns) ⟨by omega, rest _ (by simp) fun x hx => ?_⟩
  have c : cutD (ns.map D.int) none (some 0) = (cutI ns).map D.int := cutI_e ns
  simp only [List.mem_cons, List.not_mem_nil, or_false] at hx
  rcases hx with e | e | e | e | e | e | e | e <;> subst e
  · exact ok_tupI (n := 59) ns
  · exact ok_lstI (n := 59) ns
  · rw [← List.map_append]
    exact ok_tupI (n := 59) _
  · rw [c]
    exact ok_tupI (n := 59) _
  · rfl
  · rfl
  · rw [show ns.map D.int ++ [D.int (-ns.sum)] = (ns ++ [-ns.sum]).map D.int from by rw [List.map_append] <;> rfl]
    exact ok_tupI (n := 59) _
  · rfl
theorem s1 (hN : Names K A) (hΦ : PhiOk A Φ) (hs : ([o1, o3, o4, o5, o6, o7, o8, o9, o10, o11, o12, o13, o14, o15].all fun o => !isSr o) = true) (hZ : ∀ δ', LI o0 a δ' → Z.nx δ') :
    p2_1_law A K Φ ⟨some a, [o0, o1, .sr a, o3, o4, o5, o6, o7, o8, o9, o10, o11, o12, o13, o14, o15]⟩ Z := by
  have rest : ∀ st ns, Scr st ns → p2_2_law A K Φ ⟨some a, [o0, o1, .sr a, .d st, o4, o5, o6, o7, o8, o9, o10, o11, o12, o13, o14, o15]⟩ Z := fun st ns sc => s2 hN hΦ sc (by
    simp [isSr_d, isSr_ow] at hs ⊢
    simp [hs]) hZ
  have hd : ∀ (P : D → Prop) (EP : Addr → Prop), (∀ v ns, Scr v ns → P v) → f__law_drawn_steps A (some a) [.ref a, .int 5] P EP := fun P EP h => q_drawn rfl h
  unfold p2_1_law
  generalize p2_2_law A K Φ = χ at rest ⊢
  generalize f__law_drawn_steps A = φ at hd ⊢
  simp [e_bodyF, e_bodyN, e_szOk, e_tSize, e_tCl, e_tClN, e_tNF, e_tSc, e_tK, e_tN, e_tR, e_t2, e_tCh, e_tBl, e_tAndB, e_tOrB, e_tNotB, e_tBV, e_tAndD, e_tOrD, e_tNotD, e_tNeg, e_tIfE, e_tIfL, e_tA0, e_tA1, e_tTupD, e_tCD, e_tItl, e_tOwn, e_tIs, e_tIx, e_tO0, e_tO1, e_tSlL, e_tSlT, e_tRev, e_tCatL, e_tRepL, e_tCatT, e_tRepT, e_tTupI, e_tTupL, e_sqD, e_nxD, e_tFz, e_tEx, e_tRt, e_tRn, e_tRo, e_tSet, e_tSetN, e_tIf, e_tRs, e_tSetG, e_tForL, e_tRg1, e_tRg2, e_tWh, e_tApp, e_tStI, e_yesD, e_tLc, e_tM0, e_tMF, e_tMN, e_tMK, e_tMT, e_tPar2, e_tPar3, e_tJoin, e_tIsE, e_tRef, e_tSrcS, e_tSrcI, e_tSrcW, e_tIxO, startD, DE.set, rdS, D.ty, isTy, fLen, fAbs, fInt, fI, fI0, gN, gT, setAll, itemsX, wipeD, MI.slot, fzD, dIx]
  exact hd _ _ fun v ns sc => rest v ns sc
theorem s0 {s : Option Addr} {ns : List Int} {k : Int} (hN : Names K A) (hΦ : PhiOk A Φ) (hk : 0 ≤ k) (hk2 : k < 100) (ho : srOk 2 ⟨s, [.d (.kl (ns.map D.int)), .d (.int k), o2, o3, o4, o5, o6, o7, o8, o9, o10, o11, o12, o13, o14, o15]⟩ = true) (hs : ([.d (.int k), o3, o4, o5, o6, o7, o8, o9, o10, o11, o12, o13, o14, o15].all fun o => !isSr o) = true) (hZ : ∀ a δ', LI (.d (.kl (ns.map D.int))) a δ' → Z.nx δ') :
    p2_0_law A K Φ ⟨s, [.d (.kl (ns.map D.int)), .d (.int k), o2, o3, o4, o5, o6, o7, o8, o9, o10, o11, o12, o13, o14, o15]⟩ Z := by
  have rest : ∀ a, p2_1_law A K Φ ⟨some a, [.d (.kl (ns.map D.int)), .d (.int k), .sr a, o3, o4, o5, o6, o7, o8, o9, o10, o11, o12, o13, o14, o15]⟩ Z := fun a => s1 hN hΦ hs (hZ a)
  have hd : ∀ (P : List D → Prop) (EP : Addr → Prop), (∀ x y : Int, 0 ≤ x → 0 ≤ y → y < 2147483648 → P [.int x, .int y]) → f__law_source A s [.kl (ns.map D.int), .int k] P EP := fun P EP h => q_source hk hk2 h
  unfold p2_0_law
  generalize p2_1_law A K Φ = χ at rest ⊢
  generalize f__law_source A = φ at hd ⊢
  simp [e_bodyF, e_bodyN, e_szOk, e_tSize, e_tCl, e_tClN, e_tNF, e_tSc, e_tK, e_tN, e_tR, e_t2, e_tCh, e_tBl, e_tAndB, e_tOrB, e_tNotB, e_tBV, e_tAndD, e_tOrD, e_tNotD, e_tNeg, e_tIfE, e_tIfL, e_tA0, e_tA1, e_tTupD, e_tCD, e_tItl, e_tOwn, e_tIs, e_tIx, e_tO0, e_tO1, e_tSlL, e_tSlT, e_tRev, e_tCatL, e_tRepL, e_tCatT, e_tRepT, e_tTupI, e_tTupL, e_sqD, e_nxD, e_tFz, e_tEx, e_tRt, e_tRn, e_tRo, e_tSet, e_tSetN, e_tIf, e_tRs, e_tSetG, e_tForL, e_tRg1, e_tRg2, e_tWh, e_tApp, e_tStI, e_yesD, e_tLc, e_tM0, e_tMF, e_tMN, e_tMK, e_tMT, e_tPar2, e_tPar3, e_tJoin, e_tIsE, e_tRef, e_tSrcS, e_tSrcI, e_tSrcW, e_tIxO, startD, DE.set, rdS, D.ty, isTy, fLen, fAbs, fInt, fI, fI0, gN, gT, setAll, itemsX, wipeD, MI.slot, fzD, dIx, ho]
  exact hd _ _ fun x y h1 h2 h3 => ⟨⟨h1, h2, h3⟩, fun a => rest a⟩
end
section
variable {A : Str → Addr} {K : PySem.W.Frag} {Φ : Addr → Nat → Option Fn}
def rowsD : List D := [.tup [.tup [.int 11, .int 11, .int 11, .int 11, .int 11], .bl true], .tup [.tup [.int 1, .int 1, .int 1, .int 1, .int 1, .int 1], .bl false], .tup [.tup [.bl true], .bl false], .tup [.tup [.int 0, .int 1], .bl false], .tup [.tup [.int (-11)], .bl true], .tup [.tup [.int 5, .int (-5)], .bl false]]
def bR : D → Bool
  | .tup [v, .bl k] => !(scriptB v == k)
  | _ => false
theorem i_fMin2 {i j : Int} {P : D → Prop} (h : P (.int (if j < i then j else i))) : fMin [.int i, .int j] P := h
theorem i_fMax2 {i j : Int} {P : D → Prop} (h : P (.int (if j > i then j else i))) : fMax [.int i, .int j] P := h
/-- the last rows -/
theorem s_rows {s : Option Addr} {Z : DEnds} {o0 o1 o2 o3 o4 o5 o6 o7 o8 o9 o10 o11 o12 o13 o14 o15 : Slot} (h : ∀ s, Z.rt s (.bl true)) : p1_1_law A K Φ ⟨s, [o0, o1, o2, o3, o4, o5, o6, o7, o8, o9, o10, o11, o12, o13, o14, o15]⟩ Z := by
  have h1 : ∀ (v : D) (P : D → Prop) (EP : Addr → Prop), D.ok 64 v = true → P (.bl (scriptB v)) → f_is_script A s [v] P EP := fun v P EP h q => q_is_script h q
  unfold p1_1_law p1_2_law
  generalize f_is_script A = φ at h1 ⊢
  simp [e_bodyF, e_bodyN, e_szOk, e_tSize, e_tCl, e_tClN, e_tNF, e_tSc, e_tK, e_tN, e_tR, e_t2, e_tCh, e_tBl, e_tAndB, e_tOrB, e_tNotB, e_tBV, e_tAndD, e_tOrD, e_tNotD, e_tNeg, e_tIfE, e_tIfL, e_tA0, e_tA1, e_tTupD, e_tCD, e_tItl, e_tOwn, e_tIs, e_tIx, e_tO0, e_tO1, e_tSlL, e_tSlT, e_tRev, e_tCatL, e_tRepL, e_tCatT, e_tRepT, e_tTupI, e_tTupL, e_sqD, e_nxD, e_tFz, e_tEx, e_tRt, e_tRn, e_tRo, e_tSet, e_tSetN, e_tIf, e_tRs, e_tSetG, e_tForL, e_tRg1, e_tRg2, e_tWh, e_tApp, e_tStI, e_yesD, e_tLc, e_tM0, e_tMF, e_tMN, e_tMK, e_tMT, e_tPar2, e_tPar3, e_tJoin, e_tIsE, e_tRef, e_tSrcS, e_tSrcI, e_tSrcW, e_tIxO, startD, DE.set, rdS, D.ty, isTy, fLen, fAbs, fInt, fI, fI0, gN, gT, setAll, itemsX, wipeD, MI.slot, fzD, dIx]
  have it : ∀ (v : D) (k : Bool), D.ok 64 v = true → ∀ Q : Bool → Prop, Q (!(scriptB v == k)) → tBl (t2 (dEq true) (tCl 1 φ (tA1 (tN 7) tA0)) (tR 9)) ⟨s, [o0, o1, o2, o3, o4, o5, o6, .d v, o8, .d (.bl k), o10, o11, o12, o13, o14, .d (.lst rowsD)]⟩ Q noEx := fun v k hv Q hQ => by
    simp [e_bodyF, e_bodyN, e_szOk, e_tSize, e_tCl, e_tClN, e_tNF, e_tSc, e_tK, e_tN, e_tR, e_t2, e_tCh, e_tBl, e_tAndB, e_tOrB, e_tNotB, e_tBV, e_tAndD, e_tOrD, e_tNotD, e_tNeg, e_tIfE, e_tIfL, e_tA0, e_tA1, e_tTupD, e_tCD, e_tItl, e_tOwn, e_tIs, e_tIx, e_tO0, e_tO1, e_tSlL, e_tSlT, e_tRev, e_tCatL, e_tRepL, e_tCatT, e_tRepT, e_tTupI, e_tTupL, e_sqD, e_nxD, e_tFz, e_tEx, e_tRt, e_tRn, e_tRo, e_tSet, e_tSetN, e_tIf, e_tRs, e_tSetG, e_tForL, e_tRg1, e_tRg2, e_tWh, e_tApp, e_tStI, e_yesD, e_tLc, e_tM0, e_tMF, e_tMN, e_tMK, e_tMT, e_tPar2, e_tPar3, e_tJoin, e_tIsE, e_tRef, e_tSrcS, e_tSrcI, e_tSrcW, e_tIxO, startD, DE.set, rdS, D.ty, isTy, fLen, fAbs, fInt, fI, fI0, gN, gT, setAll, itemsX, wipeD, MI.slot, fzD, dIx]
    refine h1 v _ _ hv (dEq_ok (neg := true) rfl rfl ?_)
    rw [eqB_bl]
    exact hQ
  refine comp_gen (dT2 7 9 ⟨s, [o0, o1, o2, o3, o4, o5, o6, .no, o8, .no, o10, o11, o12, o13, o14, .d (.lst rowsD)]⟩) bR (fun _ => .non) rowsD [] (fun x q Q hQ => ?_) (fun x q Q hQ => ?_) (fun x q hb Q hQ => ?_) ?_
  · simp only [rowsD, List.mem_cons, List.not_mem_nil, or_false] at q
    rcases q with e | e | e | e | e | e <;> subst e <;> exact hQ
  · simp only [rowsD, List.mem_cons, List.not_mem_nil, or_false] at q
    rcases q with e | e | e | e | e | e <;> subst e <;> exact it _ _ (by decide +kernel) Q hQ
  · have z : bR x = false := by
      simp only [rowsD, List.mem_cons, List.not_mem_nil, or_false] at q
      rcases q with e | e | e | e | e | e <;> subst e <;> decide +kernel
    rw [z] at hb
    cases hb
  · have z : rowsD.filter bR = [] := List.filter_eq_nil_iff.mpr fun x q => by
      simp only [rowsD, List.mem_cons, List.not_mem_nil, or_false] at q
      rcases q with e | e | e | e | e | e <;> subst e <;> decide +kernel
    rw [z]
    refine dEq_ok (neg := false) rfl rfl ?_
    exact h s
theorem law_D (hN : Names K A) (hΦ : PhiOk A Φ) : LawD N_law (t_law A K Φ) 63 := by
  intro ns hl hb
  have rest : ∀ (s : Option Addr) (Z : DEnds) (o1 o2 o3 o4 o5 o6 o7 o8 o9 o10 o11 o12 o13 o14 o15 : Slot), (∀ s, Z.rt s (.bl true)) → p1_1_law A K Φ ⟨s, [.d (.kl (ns.map D.int)), o1, o2, o3, o4, o5, o6, o7, o8, o9, o10, o11, o12, o13, o14, o15]⟩ Z := fun s Z o1 o2 o3 o4 o5 o6 o7 o8 o9 o10 o11 o12 o13 o14 o15 h => s_rows h
  have body : ∀ (s : Option Addr) (k : Int) (Z : DEnds) (o2 o3 o4 o5 o6 o7 o8 o9 o10 o11 o12 o13 o14 o15 : Slot), 0 ≤ k → k < 100 → srOk 2 ⟨s, [.d (.kl (ns.map D.int)), .d (.int k), o2, o3, o4, o5, o6, o7, o8, o9, o10, o11, o12, o13, o14, o15]⟩ = true → ([.d (.int k), o3, o4, o5, o6, o7, o8, o9, o10, o11, o12, o13, o14, o15].all fun o => !isSr o) = true → (∀ a δ', LI (.d (.kl (ns.map D.int))) a δ' → Z.nx δ') → p2_0_law A K Φ ⟨s, [.d (.kl (ns.map D.int)), .d (.int k), o2, o3, o4, o5, o6, o7, o8, o9, o10, o11, o12, o13, o14, o15]⟩ Z := fun s k Z o2 o3 o4 o5 o6 o7 o8 o9 o10 o11 o12 o13 o14 o15 h1 h2 h3 h4 h5 => s0 hN hΦ h1 h2 h3 h4 h5
  unfold t_law p1_0_law
  generalize p1_1_law A K Φ = χ at rest ⊢
  generalize p2_0_law A K Φ = ψ at body ⊢
  simp [N_law, e_bodyF, e_bodyN, e_szOk, e_tSize, e_tCl, e_tClN, e_tNF, e_tSc, e_tK, e_tN, e_tR, e_t2, e_tCh, e_tBl, e_tAndB, e_tOrB, e_tNotB, e_tBV, e_tAndD, e_tOrD, e_tNotD, e_tNeg, e_tIfE, e_tIfL, e_tA0, e_tA1, e_tTupD, e_tCD, e_tItl, e_tOwn, e_tIs, e_tIx, e_tO0, e_tO1, e_tSlL, e_tSlT, e_tRev, e_tCatL, e_tRepL, e_tCatT, e_tRepT, e_tTupI, e_tTupL, e_sqD, e_nxD, e_tFz, e_tEx, e_tRt, e_tRn, e_tRo, e_tSet, e_tSetN, e_tIf, e_tRs, e_tSetG, e_tForL, e_tRg1, e_tRg2, e_tWh, e_tApp, e_tStI, e_yesD, e_tLc, e_tM0, e_tMF, e_tMN, e_tMK, e_tMT, e_tPar2, e_tPar3, e_tJoin, e_tIsE, e_tRef, e_tSrcS, e_tSrcI, e_tSrcW, e_tIxO, startD, DE.set, rdS, D.ty, isTy, fLen, fAbs, fInt, fI, fI0, gN, gT, setAll, itemsX, wipeD, MI.slot, fzD, dIx]
  refine i_fMin2 (i_fMax2 ?_)
  generalize hj : (if (if (ns.length : Int) < 20 then (ns.length : Int) else 20) > 6 then (if (ns.length : Int) < 20 then (ns.length : Int) else 20) else 6) = j
  have bj : 0 ≤ j ∧ j < 100 := by
    subst hj
    split <;> (try split) <;> omega
  refine ⟨⟨by omega, by omega⟩, ?_⟩
  refine loop_inv (fun δ => δ = ⟨none, [.d (.kl (ns.map D.int)), .no, .no, .no, .no, .no, .no, .no, .no, .no, .no, .no, .no, .no, .no, .no]⟩ ∨ ∃ a, LI (.d (.kl (ns.map D.int))) a δ) _ _ (.inl rfl) (fun δ hδ => ?_) fun x hx δ hδ K hK => ?_
  · rcases hδ with e | ⟨a, o1, o3, o4, o5, o6, o7, o8, o9, o10, o11, o12, o13, o14, o15, e, _⟩
    · subst e
      exact rest _ _ _ _ _ _ _ _ _ _ _ _ _ _ _ _ _ fun _ => rfl
    · subst e
      exact rest _ _ _ _ _ _ _ _ _ _ _ _ _ _ _ _ _ fun _ => rfl
  · obtain ⟨k, hk, ex⟩ := rgD_mem hx
    subst ex
    rcases hδ with e | ⟨a, o1, o3, o4, o5, o6, o7, o8, o9, o10, o11, o12, o13, o14, o15, e, hs⟩
    · subst e
      exact body none _ _ _ _ _ _ _ _ _ _ _ _ _ _ _ _ (by omega) (by omega) rfl rfl fun a δ' h => hK δ' (.inr ⟨a, h⟩)
    · subst e
      refine body (some a) _ _ _ _ _ _ _ _ _ _ _ _ _ _ _ _ (by omega) (by omega) ?_ ?_ fun a δ' h => hK δ' (.inr ⟨a, h⟩)
      · simp [srOk, isSr_d, isSr_no] at hs ⊢
        simp [hs]
      · simp [isSr_d] at hs ⊢
        simp [hs]
end
end Wn

set_option Elab.async false
set_option linter.all false
set_option maxRecDepth 100000
set_option maxHeartbeats 4000000
namespace Rw
open PySem PySem.Spec PyProof.Rows L2 Wn LamX
def topS (i : Nat) : Stmt := PySem.Challenge.pw_ringwound_k01_scripts_and_their_divisors.main.body.getD i (.Pass ⟨0, 0, 0, 0⟩)
structure Txt (K : PySem.W.Frag) (mg : Str → Option Value) (A : Str → Addr) : Prop where
  m_len : mg "len" = none
  m_range : mg "range" = none
  m_isinstance : mg "isinstance" = none
  m_sum : mg "sum" = none
  m_all : mg "all" = none
  m_abs : mg "abs" = none
  m_max : mg "max" = none
  m_min : mg "min" = none
  m_int : mg "int" = none
  m_list : mg "list" = none
  m_tuple : mg "tuple" = none
  m_bool : mg "bool" = none
  i_MOST_STEP : ∃ t, mg "MOST_STEP" = some (.int (11) t)
  i_MOST_STEPS : ∃ t, mg "MOST_STEPS" = some (.int (5) t)
  i_LEAST_RING : ∃ t, mg "LEAST_RING" = some (.int (24) t)
  i_MOST_RING : ∃ t, mg "MOST_RING" = some (.int (1000000000000000000000000000000) t)
  g_WindError : mg "WindError" = some (.ref (A "WindError"))
  g_InvalidScript : mg "InvalidScript" = some (.ref (A "InvalidScript"))
  g_InvalidRing : mg "InvalidRing" = some (.ref (A "InvalidRing"))
  g_InvalidPeg : mg "InvalidPeg" = some (.ref (A "InvalidPeg"))
  g_InvalidIndex : mg "InvalidIndex" = some (.ref (A "InvalidIndex"))
  g_InvalidWord : mg "InvalidWord" = some (.ref (A "InvalidWord"))
  g_InvalidLength : mg "InvalidLength" = some (.ref (A "InvalidLength"))
  g_InvalidSeen : mg "InvalidSeen" = some (.ref (A "InvalidSeen"))
  g_InvalidNumber : mg "InvalidNumber" = some (.ref (A "InvalidNumber"))
  g_InvalidText : mg "InvalidText" = some (.ref (A "InvalidText"))
  g_AllLaid : mg "AllLaid" = some (.ref (A "AllLaid"))
  g_NothingToUndo : mg "NothingToUndo" = some (.ref (A "NothingToUndo"))
  g_total : mg "total" = some (.ref (A "total"))
  g_divisors : mg "divisors" = some (.ref (A "divisors"))
  g_divisor : mg "divisor" = some (.ref (A "divisor"))
  x_InvalidScript : PySem.W.excIn K (A "InvalidScript") [.type "ValueError", .type "Exception", .type "BaseException", .type "object"] "ValueError.__new__" = true
  k_InvalidScript : PySem.W.keepIn K (.ref (A "InvalidScript")) = true
  b_InvalidScript : PySem.W.subIn K (.ref (A "InvalidScript")) (.type "BaseException") = some true
  t_InvalidScript : PySem.W.typeIn K (.ref (A "InvalidScript")) = some (.type "type")
  x_InvalidRing : PySem.W.excIn K (A "InvalidRing") [.type "ValueError", .type "Exception", .type "BaseException", .type "object"] "ValueError.__new__" = true
  k_InvalidRing : PySem.W.keepIn K (.ref (A "InvalidRing")) = true
  b_InvalidRing : PySem.W.subIn K (.ref (A "InvalidRing")) (.type "BaseException") = some true
  t_InvalidRing : PySem.W.typeIn K (.ref (A "InvalidRing")) = some (.type "type")
  ec : ∀ C, Cs A C → L2.ExcC K C
  kit : ∀ C, Cs A C → ∀ x ∈ errN, PySem.W.kitOne K (.ref C) (.ref (A x)) = some (decide (C = A x))
section
variable {P : Program} {w : World} {K : PySem.W.Frag} {mg : Str → Option Value} {base : Heap} {T : Tbl} {A : Str → Addr}
abbrev s_is_within : Stmt := topS 18
theorem ok_is_within {f : Addr} {fd : FuncData} (F : L2.Fun K "is_within" "is_within" s_is_within f fd) (X : Txt K mg A) (g : mg "is_within" = some (.ref f))  : Cl P w K mg base 1 "is_within" (spD K T 3 (f_is_within A)) := by
  have sc : FnScope N_is_within ["value", "low", "high"] (defScope s_is_within) := ⟨rfl, rfl, rfl, by decide +kernel, rfl, by decide +kernel, by decide +kernel⟩
  refine ⟨f, fd, ["value", "low", "high"], fn_D F sc rfl fun cdv Ar outer s H E hr => ?_, g, F.kp, F.binds fun _ _ _ _ _ _ us hl => match us, hl with | [_, _, _], _ => rfl⟩
  exact (pd_s1 (pd_rt (pd_andV (pd_R (pd_isi .int X.m_isinstance X.m_int (by decide +kernel) (pd_r 0))) (pd_andV (pd_R (pd_notV (pd_R (pd_isi .bl X.m_isinstance X.m_bool (by decide +kernel) (pd_r 0))))) (pd_oneF (pd_lele (pd_r 1) (pd_r 0) (pd_r 2)))))))

abbrev s_is_step : Stmt := topS 19
theorem ok_is_step {f : Addr} {fd : FuncData} (F : L2.Fun K "is_step" "is_step" s_is_step f fd) (X : Txt K mg A) (g : mg "is_step" = some (.ref f)) (c_is_within : Cl P w K mg base 1 "is_within" (spD K T 3 (f_is_within A))) : Cl P w K mg base 2 "is_step" (spD K T 1 (f_is_step A)) := by
  have sc : FnScope N_is_step ["value"] (defScope s_is_step) := ⟨rfl, rfl, rfl, by decide +kernel, rfl, by decide +kernel, by decide +kernel⟩
  refine ⟨f, fd, ["value"], fn_D F sc rfl fun cdv Ar outer s H E hr => ?_, g, F.kp, F.binds fun _ _ _ _ _ _ us hl => match us, hl with | [_], _ => rfl⟩
  exact (pd_s1 (pd_rt (pd_andV (pd_R (pd_cl c_is_within hr (by decide) passE (pd_a1 (pd_n 0) (pd_a1 (pd_neg (pd_R (pd_gint X.i_MOST_STEP rfl))) (pd_a1 (pd_gint X.i_MOST_STEP rfl) pd_a0))))) (pd_oneF (pd_ne hr.units (pd_r 0) (pd_R pd_int))))))

abbrev s_is_right_script : Stmt := topS 20
theorem ok_is_right_script {f : Addr} {fd : FuncData} (F : L2.Fun K "is_right_script" "is_right_script" s_is_right_script f fd) (X : Txt K mg A) (g : mg "is_right_script" = some (.ref f)) (c_is_step : Cl P w K mg base 2 "is_step" (spD K T 1 (f_is_step A))) : Cl P w K mg base 3 "is_right_script" (spD K T 1 (f_is_right_script A)) := by
  have sc : FnScope N_is_right_script ["value"] (defScope s_is_right_script) := ⟨rfl, rfl, rfl, by decide +kernel, rfl, by decide +kernel, by decide +kernel⟩
  refine ⟨f, fd, ["value"], fn_D F sc rfl fun cdv Ar outer s H E hr => ?_, g, F.kp, F.binds fun _ _ _ _ _ _ us hl => match us, hl with | [_], _ => rfl⟩
  exact (pd_sq (pd_if (PW.pt (pd_or (pd_notT (pd_t (pd_R (pd_isi .tup X.m_isinstance X.m_tuple (by decide +kernel) (pd_r 0))))) (pd_or1 (pd_notT (pd_tlele (pd_R pd_int) (pd_R (pd_len X.m_len (pd_b1 (pd_r 0) pd_b0))) (pd_R (pd_gint X.i_MOST_STEPS rfl))))))) (pd_s1 (pd_rt pd_bl)) pd_nil)
  (pd_s1 (pd_rt (pd_andV (pd_R (pd_all rfl X.m_all (pd_b1 (pd_R (pd_NF (pd_lcT (own := [("step", 1)]) rfl sc.nd (pd_n 0) (blkOk_by (N := N_is_right_script) (sc := defScope s_is_right_script) (by decide +kernel)) (by decide) (fun _ _ _ _ _ => (pd_gn 1 sc.nd)) (fun _ _ _ _ _ => pd_ts0) (fun _ _ _ _ _ => (pd_cl c_is_step hr (by decide) (pass_E0 rfl rfl) (pd_a1 (pd_n 1) pd_a0)))))) pd_b0))) (pd_oneF (pd_ne hr.units (pd_R (pd_sum rfl X.m_sum (pd_b1 (pd_R (pd_NF (pd_lcT (own := [("step", 1)]) rfl sc.nd (pd_n 0) (blkOk_by (N := N_is_right_script) (sc := defScope s_is_right_script) (by decide +kernel)) (by decide) (fun _ _ _ _ _ => (pd_gn 1 sc.nd)) (fun _ _ _ _ _ => (pd_ts1 (pd_t (pd_R (pd_cl c_is_step hr (by decide) (pass_E0 rfl rfl) (pd_a1 (pd_n 1) pd_a0)))))) (fun _ _ _ _ _ => (pd_n 1))))) pd_b0))) (pd_R pd_int)))))))

abbrev s_need_script : Stmt := topS 21
theorem ok_need_script {f : Addr} {fd : FuncData} (F : L2.Fun K "need_script" "need_script" s_need_script f fd) (X : Txt K mg A) (g : mg "need_script" = some (.ref f)) (c_is_right_script : Cl P w K mg base 3 "is_right_script" (spD K T 1 (f_is_right_script A))) : Cl P w K mg base 4 "need_script" (spD K T 1 (f_need_script A)) := by
  have sc : FnScope N_need_script ["value"] (defScope s_need_script) := ⟨rfl, rfl, rfl, by decide +kernel, rfl, by decide +kernel, by decide +kernel⟩
  refine ⟨f, fd, ["value"], fn_D F sc rfl fun cdv Ar outer s H E hr => ?_, g, F.kp, F.binds fun _ _ _ _ _ _ us hl => match us, hl with | [_], _ => rfl⟩
  exact (pd_s1 (pd_if (pd_notT (pd_t (pd_R (pd_cl c_is_right_script hr (by decide) passE (pd_a1 (pd_n 0) pd_a0))))) (pd_s1 (pd_rs rfl takesE (L2N.pmk_own PySem.F.excBase_ValueError X.x_InvalidScript X.g_InvalidScript X.k_InvalidScript (raises_own X.b_InvalidScript X.t_InvalidScript) rfl))) pd_nil))

abbrev s_need_ring : Stmt := topS 22
theorem ok_need_ring {f : Addr} {fd : FuncData} (F : L2.Fun K "need_ring" "need_ring" s_need_ring f fd) (X : Txt K mg A) (g : mg "need_ring" = some (.ref f)) (c_is_within : Cl P w K mg base 1 "is_within" (spD K T 3 (f_is_within A))) : Cl P w K mg base 2 "need_ring" (spD K T 1 (f_need_ring A)) := by
  have sc : FnScope N_need_ring ["value"] (defScope s_need_ring) := ⟨rfl, rfl, rfl, by decide +kernel, rfl, by decide +kernel, by decide +kernel⟩
  refine ⟨f, fd, ["value"], fn_D F sc rfl fun cdv Ar outer s H E hr => ?_, g, F.kp, F.binds fun _ _ _ _ _ _ us hl => match us, hl with | [_], _ => rfl⟩
  exact (pd_s1 (pd_if (pd_notT (pd_t (pd_R (pd_cl c_is_within hr (by decide) passE (pd_a1 (pd_n 0) (pd_a1 (pd_gint X.i_LEAST_RING rfl) (pd_a1 (pd_gint X.i_MOST_RING rfl) pd_a0))))))) (pd_s1 (pd_rs rfl takesE (L2N.pmk_own PySem.F.excBase_ValueError X.x_InvalidRing X.g_InvalidRing X.k_InvalidRing (raises_own X.b_InvalidRing X.t_InvalidRing) rfl))) pd_nil))

abbrev s_shared : Stmt := topS 23
theorem ok_shared {f : Addr} {fd : FuncData} (F : L2.Fun K "shared" "shared" s_shared f fd) (X : Txt K mg A) (g : mg "shared" = some (.ref f))  : Cl P w K mg base 1 "shared" (spD K T 2 (f_shared A)) := by
  have sc : FnScope N_shared ["one", "other"] (defScope s_shared) := ⟨rfl, rfl, rfl, by decide +kernel, rfl, by decide +kernel, by decide +kernel⟩
  refine ⟨f, fd, ["one", "other"], fn_D F sc rfl fun cdv Ar outer s H E hr => ?_, g, F.kp, F.binds fun _ _ _ _ _ _ us hl => match us, hl with | [_, _], _ => rfl⟩
  exact (pd_sq (pd_par2 0 1 rfl sc.nd (pd_mF (pd_abs X.m_abs (pd_b1 (pd_r 0) pd_b0)) (pd_mF (pd_abs X.m_abs (pd_b1 (pd_r 1) pd_b0)) pd_m0)) (by with_unfolding_all rfl))
  (pd_sq (pd_wh PassesOwn.leaving (pd_tne hr.units (pd_r 1) (pd_R pd_int))
  (pd_s1 (pd_par2 0 1 rfl sc.nd (pd_mF (pd_n 1) (pd_mF (pd_mod (pd_r 0) (pd_r 1)) pd_m0)) (by with_unfolding_all rfl))))
  (pd_s1 (pd_rt (pd_n 0)))))

abbrev s_divisors_of : Stmt := topS 24
theorem ok_divisors_of {f : Addr} {fd : FuncData} (F : L2.Fun K "divisors_of" "divisors_of" s_divisors_of f fd) (X : Txt K mg A) (g : mg "divisors_of" = some (.ref f))  : Cl P w K mg base 1 "divisors_of" (spN K T 1 (f_divisors_of A)) := by
  have sc : FnScope N_divisors_of ["number"] (defScope s_divisors_of) := ⟨rfl, rfl, rfl, by decide +kernel, rfl, by decide +kernel, by decide +kernel⟩
  refine ⟨f, fd, ["number"], fn_N F sc rfl fun cdv Ar outer s H E hr => ?_, g, F.kp, F.binds fun _ _ _ _ _ _ us hl => match us, hl with | [_], _ => rfl⟩
  exact (pd_sq (pd_set 1 sc.nd (pd_abs X.m_abs (pd_b1 (pd_r 0) pd_b0)))
  (pd_s1 (pd_rn (pd_lcR2 (own := [("divisor", 2)]) rfl sc.nd X.m_range (pd_b1 (pd_R pd_int) (pd_b1 (pd_R (pd_add (pd_r 1) (pd_R pd_int))) pd_b0)) (blkOk_by (N := N_divisors_of) (sc := defScope s_divisors_of) (by decide +kernel)) (by decide) (fun _ _ _ _ _ => (pd_gn 2 sc.nd)) (fun _ _ _ _ _ => (pd_ts1 (pd_teq hr.units (pd_R (pd_mod (pd_r 1) (pd_r 2))) (pd_R pd_int)))) (fun _ _ _ _ _ => (pd_n 2))))))

abbrev s_is_script : Stmt := topS 25
theorem ok_is_script {f : Addr} {fd : FuncData} (F : L2.Fun K "is_script" "is_script" s_is_script f fd) (X : Txt K mg A) (g : mg "is_script" = some (.ref f)) (c_is_right_script : Cl P w K mg base 3 "is_right_script" (spD K T 1 (f_is_right_script A))) : Cl P w K mg base 4 "is_script" (spD K T 1 (f_is_script A)) := by
  have sc : FnScope N_is_script ["value"] (defScope s_is_script) := ⟨rfl, rfl, rfl, by decide +kernel, rfl, by decide +kernel, by decide +kernel⟩
  refine ⟨f, fd, ["value"], fn_D F sc rfl fun cdv Ar outer s H E hr => ?_, g, F.kp, F.binds fun _ _ _ _ _ _ us hl => match us, hl with | [_], _ => rfl⟩
  exact (pd_s1 (pd_rt (pd_cl c_is_right_script hr (by decide) passE (pd_a1 (pd_n 0) pd_a0))))

abbrev s_total : Stmt := topS 26
theorem ok_total {f : Addr} {fd : FuncData} (F : L2.Fun K "total" "total" s_total f fd) (X : Txt K mg A) (g : mg "total" = some (.ref f)) (c_need_script : Cl P w K mg base 4 "need_script" (spD K T 1 (f_need_script A))) : Cl P w K mg base 5 "total" (spD K T 1 (f_total A)) := by
  have sc : FnScope N_total ["script"] (defScope s_total) := ⟨rfl, rfl, rfl, by decide +kernel, rfl, by decide +kernel, by decide +kernel⟩
  refine ⟨f, fd, ["script"], fn_D F sc rfl fun cdv Ar outer s H E hr => ?_, g, F.kp, F.binds fun _ _ _ _ _ _ us hl => match us, hl with | [_], _ => rfl⟩
  exact (pd_sq (pd_ex (pd_R (pd_cl c_need_script hr (by decide) passE (pd_a1 (pd_n 0) pd_a0))))
  (pd_s1 (pd_rt (pd_sum rfl X.m_sum (pd_b1 (pd_r 0) pd_b0)))))

abbrev s_divisors : Stmt := topS 27
theorem ok_divisors {f : Addr} {fd : FuncData} (F : L2.Fun K "divisors" "divisors" s_divisors f fd) (X : Txt K mg A) (g : mg "divisors" = some (.ref f)) (c_need_script : Cl P w K mg base 4 "need_script" (spD K T 1 (f_need_script A))) (c_divisors_of : Cl P w K mg base 1 "divisors_of" (spN K T 1 (f_divisors_of A))) : Cl P w K mg base 5 "divisors" (spN K T 1 (f_divisors A)) := by
  have sc : FnScope N_divisors ["script"] (defScope s_divisors) := ⟨rfl, rfl, rfl, by decide +kernel, rfl, by decide +kernel, by decide +kernel⟩
  refine ⟨f, fd, ["script"], fn_N F sc rfl fun cdv Ar outer s H E hr => ?_, g, F.kp, F.binds fun _ _ _ _ _ _ us hl => match us, hl with | [_], _ => rfl⟩
  exact (pd_sq (pd_ex (pd_R (pd_cl c_need_script hr (by decide) passE (pd_a1 (pd_n 0) pd_a0))))
  (pd_s1 (pd_rn (pd_clN c_divisors_of hr (by decide) passE (pd_a1 (pd_sum rfl X.m_sum (pd_b1 (pd_r 0) pd_b0)) pd_a0)))))

abbrev s_divisor : Stmt := topS 28
theorem ok_divisor {f : Addr} {fd : FuncData} (F : L2.Fun K "divisor" "divisor" s_divisor f fd) (X : Txt K mg A) (g : mg "divisor" = some (.ref f)) (c_need_script : Cl P w K mg base 4 "need_script" (spD K T 1 (f_need_script A))) (c_need_ring : Cl P w K mg base 2 "need_ring" (spD K T 1 (f_need_ring A))) (c_shared : Cl P w K mg base 1 "shared" (spD K T 2 (f_shared A))) : Cl P w K mg base 5 "divisor" (spD K T 2 (f_divisor A)) := by
  have sc : FnScope N_divisor ["script", "n"] (defScope s_divisor) := ⟨rfl, rfl, rfl, by decide +kernel, rfl, by decide +kernel, by decide +kernel⟩
  refine ⟨f, fd, ["script", "n"], fn_D F sc rfl fun cdv Ar outer s H E hr => ?_, g, F.kp, F.binds fun _ _ _ _ _ _ us hl => match us, hl with | [_, _], _ => rfl⟩
  exact (pd_sq (pd_ex (pd_R (pd_cl c_need_script hr (by decide) passE (pd_a1 (pd_n 0) pd_a0))))
  (pd_sq (pd_ex (pd_R (pd_cl c_need_ring hr (by decide) passE (pd_a1 (pd_n 1) pd_a0))))
  (pd_s1 (pd_rt (pd_cl c_shared hr (by decide) passE (pd_a1 (pd_n 1) (pd_a1 (pd_sum rfl X.m_sum (pd_b1 (pd_r 0) pd_b0)) pd_a0)))))))

abbrev s__law_source : Stmt := topS 30
theorem ok__law_source {f : Addr} {fd : FuncData} (F : L2.Fun K "_law_source" "_law_source" s__law_source f fd) (X : Txt K mg A) (g : mg "_law_source" = some (.ref f))  : Cl P w K mg base 1 "_law_source" (spN K T 2 (f__law_source A)) := by
  have sc : FnScope N__law_source ["script", "k"] (defScope s__law_source) := ⟨rfl, rfl, rfl, by decide +kernel, rfl, by decide +kernel, by decide +kernel⟩
  refine ⟨f, fd, ["script", "k"], fn_N F sc rfl fun cdv Ar outer s H E hr => ?_, g, F.kp, F.binds fun _ _ _ _ _ _ us hl => match us, hl with | [_, _], _ => rfl⟩
  exact (pd_sq (pd_set 2 sc.nd pd_int)
  (pd_sq (pd_if (pd_tgt (pd_R (pd_len X.m_len (pd_b1 (pd_r 0) pd_b0))) (pd_r 1)) (pd_s1 (pd_set 2 sc.nd (pd_intc X.m_int (pd_b1 (pd_R (pd_ix (pd_n 0) (pd_r 1))) pd_b0)))) pd_nil)
  (pd_sq (pd_set 3 sc.nd (pd_mod (pd_R (pd_add (pd_R (pd_add (pd_R (pd_mul (pd_r 2) (pd_R pd_int))) (pd_R (pd_mul (pd_R pd_int) (pd_r 1))))) (pd_R pd_int))) (pd_R pd_int)))
  (pd_sq (pd_set 3 sc.nd (pd_add (pd_R (pd_add (pd_R (pd_mod (pd_R (pd_mul (pd_r 3) (pd_r 3))) (pd_R pd_int))) (pd_R (pd_mul (pd_R pd_int) (pd_r 1))))) (pd_R pd_int)))
  (pd_s1 (pd_rn (pd_lst (pd_a1 (pd_ifF (pd_tge (pd_r 2) (pd_R (pd_pow (pd_R pd_int) (pd_R pd_int)))) (pd_n 2) pd_int) (pd_a1 (pd_n 3) pd_a0)))))))))

abbrev s__law_pick : Stmt := topS 31
theorem ok__law_pick {f : Addr} {fd : FuncData} (F : L2.Fun K "_law_pick" "_law_pick" s__law_pick f fd) (X : Txt K mg A) (g : mg "_law_pick" = some (.ref f))  : Cl P w K mg base 1 "_law_pick" (spD K T 2 (f__law_pick A)) := by
  have sc : FnScope N__law_pick ["source", "many"] (defScope s__law_pick) := ⟨rfl, rfl, rfl, by decide +kernel, rfl, by decide +kernel, by decide +kernel⟩
  refine ⟨f, fd, ["source", "many"], fn_D F sc rfl fun cdv Ar outer s H E hr => ?_, g, F.kp, F.binds fun _ _ _ _ _ _ us hl => match us, hl with | [_, _], _ => rfl⟩
  exact (pd_sq (pd_if (pd_tgt (pd_R (pd_srcI 0 0 (by decide))) (pd_R pd_int)) (pd_sq (pd_set 2 sc.nd (pd_mod (pd_R (pd_intc X.m_int (pd_b1 (pd_R (pd_srcI 0 0 (by decide))) pd_b0))) (pd_r 1)))
  (pd_sq (pd_srcW 0 0 (by decide) (pd_fdiv (pd_R (pd_intc X.m_int (pd_b1 (pd_R (pd_srcI 0 0 (by decide))) pd_b0))) (pd_r 1)))
  (pd_s1 (pd_rt (pd_n 2))))) pd_nil)
  (pd_sq (pd_srcW 0 1 (by decide) (pd_mod (pd_R (pd_intc X.m_int (pd_b1 (pd_R (pd_add (pd_R (pd_mul (pd_R (pd_srcI 0 1 (by decide))) (pd_R pd_int))) (pd_R pd_int))) pd_b0))) (pd_R pd_int)))
  (pd_s1 (pd_rt (pd_mod (pd_R (pd_fdiv (pd_R (pd_mod (pd_R (pd_intc X.m_int (pd_b1 (pd_R (pd_mul (pd_R (pd_srcI 0 1 (by decide))) (pd_R (pd_srcI 0 1 (by decide))))) pd_b0))) (pd_R pd_int))) (pd_R pd_int))) (pd_r 1))))))

abbrev s__law_chosen : Stmt := topS 32
theorem ok__law_chosen {f : Addr} {fd : FuncData} (F : L2.Fun K "_law_chosen" "_law_chosen" s__law_chosen f fd) (X : Txt K mg A) (g : mg "_law_chosen" = some (.ref f)) (c__law_pick : Cl P w K mg base 1 "_law_pick" (spD K T 2 (f__law_pick A))) : Cl P w K mg base 2 "_law_chosen" (spD K T 2 (f__law_chosen A)) := by
  have sc : FnScope N__law_chosen ["source", "things"] (defScope s__law_chosen) := ⟨rfl, rfl, rfl, by decide +kernel, rfl, by decide +kernel, by decide +kernel⟩
  refine ⟨f, fd, ["source", "things"], fn_D F sc rfl fun cdv Ar outer s H E hr => ?_, g, F.kp, F.binds fun _ _ _ _ _ _ us hl => match us, hl with | [_, _], _ => rfl⟩
  exact (pd_s1 (pd_rt (pd_ix (pd_n 1) (pd_R (pd_cl c__law_pick hr (by decide) passE (pd_a1 (pd_n 0) (pd_a1 (pd_len X.m_len (pd_b1 (pd_r 1) pd_b0)) pd_a0)))))))

abbrev s__law_is_bool : Stmt := topS 33
theorem ok__law_is_bool {f : Addr} {fd : FuncData} (F : L2.Fun K "_law_is_bool" "_law_is_bool" s__law_is_bool f fd) (X : Txt K mg A) (g : mg "_law_is_bool" = some (.ref f))  : Cl P w K mg base 1 "_law_is_bool" (spD K T 2 (f__law_is_bool A)) := by
  have sc : FnScope N__law_is_bool ["told", "due"] (defScope s__law_is_bool) := ⟨rfl, rfl, rfl, by decide +kernel, rfl, by decide +kernel, by decide +kernel⟩
  refine ⟨f, fd, ["told", "due"], fn_D F sc rfl fun cdv Ar outer s H E hr => ?_, g, F.kp, F.binds fun _ _ _ _ _ _ us hl => match us, hl with | [_, _], _ => rfl⟩
  exact (pd_s1 (pd_rt (pd_andV (pd_R (pd_isi .bl X.m_isinstance X.m_bool (by decide +kernel) (pd_r 0))) (pd_oneF (pd_eq hr.units (pd_r 0) (pd_r 1))))))

abbrev s__law_wide : Stmt := topS 34
theorem ok__law_wide {f : Addr} {fd : FuncData} (F : L2.Fun K "_law_wide" "_law_wide" s__law_wide f fd) (X : Txt K mg A) (g : mg "_law_wide" = some (.ref f))  : Cl P w K mg base 1 "_law_wide" (spD K T 3 (f__law_wide A)) := by
  have sc : FnScope N__law_wide ["value", "low", "high"] (defScope s__law_wide) := ⟨rfl, rfl, rfl, by decide +kernel, rfl, by decide +kernel, by decide +kernel⟩
  refine ⟨f, fd, ["value", "low", "high"], fn_D F sc rfl fun cdv Ar outer s H E hr => ?_, g, F.kp, F.binds fun _ _ _ _ _ _ us hl => match us, hl with | [_, _, _], _ => rfl⟩
  exact (pd_s1 (pd_rt (pd_andV (pd_R (pd_isi .tup X.m_isinstance X.m_tuple (by decide +kernel) (pd_r 0))) (pd_oneF (pd_lele (pd_r 1) (pd_R (pd_len X.m_len (pd_b1 (pd_r 0) pd_b0))) (pd_r 2))))))

abbrev s__law_any_value : Stmt := topS 35
theorem ok1__law_any_value {f : Addr} {fd : FuncData} {φ : Fn} {k : Nat} (F : L2.Fun K "_law_any_value" "_law_any_value" s__law_any_value f fd) (X : Txt K mg A) (g : mg "_law_any_value" = some (.ref f)) (c__law_pick : Cl P w K mg base 1 "_law_pick" (spD K T 2 (f__law_pick A))) (c__law_chosen : Cl P w K mg base 2 "_law_chosen" (spD K T 2 (f__law_chosen A))) (hk0 : 2 ≤ k) (c__law_any_value : Cl P w K mg base k "_law_any_value" (spD K T 2 φ)) : Cl P w K mg base (k + 1) "_law_any_value" (spD K T 2 (f__law_any_value A φ)) := by
  have sc : FnScope N__law_any_value ["source", "deep"] (defScope s__law_any_value) := ⟨rfl, rfl, rfl, by decide +kernel, rfl, by decide +kernel, by decide +kernel⟩
  refine ⟨f, fd, ["source", "deep"], fn_D F sc rfl fun cdv Ar outer s H E hr => ?_, g, F.kp, F.binds fun _ _ _ _ _ _ us hl => match us, hl with | [_, _], _ => rfl⟩
  exact (pd_sq (pd_set 2 sc.nd (pd_NF (pd_lst (pd_a1 pd_non (pd_a1 pd_bl (pd_a1 pd_bl (pd_a1 pd_int (pd_a1 pd_int (pd_a1 pd_int (pd_a1 (pd_neg (pd_R pd_int)) (pd_a1 pd_int (pd_a1 pd_str (pd_a1 pd_str (pd_a1 (pd_tup pd_a0) (pd_a1 (pd_NF (pd_lst pd_a0)) (pd_a1 (pd_tup (pd_a1 pd_int pd_a0)) (pd_a1 (pd_tup (pd_a1 pd_int (pd_a1 (pd_neg (pd_R pd_int)) pd_a0))) pd_a0)))))))))))))))))
  (pd_sq (pd_set 3 sc.nd (pd_cl c__law_pick hr (Nat.le_trans (by decide) hk0) passE (pd_a1 (pd_n 0) (pd_a1 pd_int pd_a0))))
  (pd_sq (pd_if (PW.pt (pd_or (pd_tlt (pd_r 1) (pd_R pd_int)) (pd_or1 (pd_tlt (pd_r 3) (pd_R pd_int))))) (pd_s1 (pd_rt (pd_cl c__law_chosen hr (Nat.le_trans (by decide) hk0) passE (pd_a1 (pd_n 0) (pd_a1 (pd_n 2) pd_a0))))) pd_nil)
  (pd_sq (pd_setLfR1 4 (own := [("turn", 5)]) rfl sc.nd X.m_range (pd_b1 (pd_R (pd_cl c__law_pick hr (Nat.le_trans (by decide) hk0) passE (pd_a1 (pd_n 0) (pd_a1 pd_int pd_a0)))) pd_b0) (blkOk_by (N := N__law_any_value) (sc := defScope s__law_any_value) (by decide +kernel)) (by decide) (fun _ _ _ _ _ => (pd_gn 5 sc.nd)) (fun _ _ _ _ _ => pd_ts0) (fun _ _ _ _ _ => (pd_cl c__law_any_value hr (Nat.le_refl _) (pass_E0 rfl rfl) (pd_a1 (pd_n 0) (pd_a1 (pd_sub (pd_r 1) (pd_R pd_int)) pd_a0)))) (sw_true rfl rfl rfl (by decide +kernel)))
  (pd_s1 (pd_rt (pd_ifF (pd_teq hr.units (pd_r 3) (pd_R pd_int)) (pd_n 4) (pd_tupL X.m_tuple (pd_FL (pd_n 4))))))))))

theorem ok__law_any_value {f : Addr} {fd : FuncData} (F : L2.Fun K "_law_any_value" "_law_any_value" s__law_any_value f fd) (X : Txt K mg A) (g : mg "_law_any_value" = some (.ref f)) (c__law_pick : Cl P w K mg base 1 "_law_pick" (spD K T 2 (f__law_pick A))) (c__law_chosen : Cl P w K mg base 2 "_law_chosen" (spD K T 2 (f__law_chosen A))) : ∀ n, Cl P w K mg base (2 + n) "_law_any_value" (spD K T 2 (r__law_any_value A n))
  | 0 => ⟨f, fd, ["source", "deep"], ⟨fun vs H Q E ⟨s, G, ds, P, EP, _, _, _, _, _, h, _⟩ => h.elim, fun A outer s H args us vs Q E _ _ _ _ ⟨s0, G, ds, P, EP, _, _, _, _, _, h, _⟩ => h.elim⟩, g, F.kp, F.binds fun _ _ _ _ _ _ us hl => match us, hl with | [_, _], _ => rfl⟩
  | n + 1 => ok1__law_any_value F X g c__law_pick c__law_chosen (Nat.le_add_right _ _) (ok__law_any_value F X g c__law_pick c__law_chosen n)

abbrev s__law_variant : Stmt := topS 36
theorem ok1__law_variant {f : Addr} {fd : FuncData} {φ : Fn} {k : Nat} (F : L2.Fun K "_law_variant" "_law_variant" s__law_variant f fd) (X : Txt K mg A) (g : mg "_law_variant" = some (.ref f)) (c__law_pick : Cl P w K mg base 1 "_law_pick" (spD K T 2 (f__law_pick A))) (c__law_any_value : Cl P w K mg base 6 "_law_any_value" (spD K T 2 (r__law_any_value A 4))) (c__law_chosen : Cl P w K mg base 2 "_law_chosen" (spD K T 2 (f__law_chosen A))) (hk0 : 6 ≤ k) (c__law_variant : Cl P w K mg base k "_law_variant" (spD K T 3 φ)) : Cl P w K mg base (k + 1) "_law_variant" (spD K T 3 (f__law_variant A φ)) := by
  have sc : FnScope N__law_variant ["source", "value", "deep"] (defScope s__law_variant) := ⟨rfl, rfl, rfl, by decide +kernel, rfl, by decide +kernel, by decide +kernel⟩
  refine ⟨f, fd, ["source", "value", "deep"], fn_D F sc rfl fun cdv Ar outer s H E hr => ?_, g, F.kp, F.binds fun _ _ _ _ _ _ us hl => match us, hl with | [_, _, _], _ => rfl⟩
  exact (show PSs _ _ (lS K T E (full__law_variant A φ)) from (pd_sq (pd_setN 3 sc.nd (pd_listT X.m_list (pd_n 1)))
  (pd_sq (pd_if (pd_teq hr.units (pd_r 3) (pd_R (pd_NF (pd_lst pd_a0)))) (pd_s1 (pd_rt (pd_tup (pd_a1 (pd_cl c__law_any_value hr (Nat.le_trans (by decide) hk0) passE (pd_a1 (pd_n 0) (pd_a1 pd_int pd_a0))) pd_a0)))) pd_nil)
  (pd_sq (pd_par2 4 5 rfl sc.nd (pd_mF (pd_cl c__law_pick hr (Nat.le_trans (by decide) hk0) passE (pd_a1 (pd_n 0) (pd_a1 (pd_len X.m_len (pd_b1 (pd_r 3) pd_b0)) pd_a0))) (pd_mF (pd_cl c__law_pick hr (Nat.le_trans (by decide) hk0) passE (pd_a1 (pd_n 0) (pd_a1 pd_int pd_a0))) pd_m0)) (by with_unfolding_all rfl))
  (pd_sq (pd_set 6 sc.nd (pd_ixO 3 (pd_r 4)))
  (pd_sq (pd_if (PW.pt (pd_and (pd_t (pd_R (pd_isi .tup X.m_isinstance X.m_tuple (by decide +kernel) (pd_r 6)))) (pd_and (pd_tgt (pd_r 2) (pd_R pd_int)) (pd_and1 (pd_tgt (pd_r 5) (pd_R pd_int)))))) (pd_s1 (pd_rt (pd_catT (pd_catT (pd_tupL X.m_tuple (pd_NL (pd_slL (pd_o 3) pd_o0 (pd_o1 (pd_r 4))))) (pd_tup (pd_a1 (pd_cl c__law_variant hr (Nat.le_refl _) passE (pd_a1 (pd_n 0) (pd_a1 (pd_n 6) (pd_a1 (pd_sub (pd_r 2) (pd_R pd_int)) pd_a0)))) pd_a0))) (pd_tupL X.m_tuple (pd_NL (pd_slL (pd_o 3) (pd_o1 (pd_R (pd_add (pd_r 4) (pd_R pd_int)))) pd_o0)))))) pd_nil)
  (pd_sq (pd_if (pd_teq hr.units (pd_r 5) (pd_R pd_int)) (pd_s1 (pd_rt (pd_tupL X.m_tuple (pd_NL (pd_catL (pd_NL (pd_slL (pd_o 3) pd_o0 (pd_o1 (pd_r 4)))) (pd_NL (pd_slL (pd_o 3) (pd_o1 (pd_R (pd_add (pd_r 4) (pd_R pd_int)))) pd_o0))))))) pd_nil)
  (pd_sq (pd_if (pd_teq hr.units (pd_r 5) (pd_R pd_int)) (pd_s1 (pd_rt (pd_tupL X.m_tuple (pd_NL (pd_catL (pd_NL (pd_slL (pd_o 3) pd_o0 (pd_o1 (pd_R (pd_add (pd_r 4) (pd_R pd_int)))))) (pd_NL (pd_slL (pd_o 3) (pd_o1 (pd_r 4)) pd_o0))))))) pd_nil)
  (pd_sq (pd_if (pd_teq hr.units (pd_r 5) (pd_R pd_int)) (pd_s1 (pd_rt (pd_tupL X.m_tuple (pd_NL (pd_catL (pd_NL (pd_catL (pd_NL (pd_slL (pd_o 3) pd_o0 (pd_o1 (pd_r 4)))) (pd_NL (pd_rev (pd_NL (pd_slL (pd_o 3) (pd_o1 (pd_r 4)) (pd_o1 (pd_R (pd_add (pd_r 4) (pd_R pd_int)))))))))) (pd_NL (pd_slL (pd_o 3) (pd_o1 (pd_R (pd_add (pd_r 4) (pd_R pd_int)))) pd_o0))))))) pd_nil)
  (pd_sq (pd_if (pd_teq hr.units (pd_r 5) (pd_R pd_int)) (pd_s1 (pd_ro 3)) pd_nil)
  (pd_sq (pd_if (pd_tlt (pd_r 5) (pd_R pd_int)) (pd_s1 (pd_stI 3 (pd_cl c__law_any_value hr (Nat.le_trans (by decide) hk0) passE (pd_a1 (pd_n 0) (pd_a1 pd_int pd_a0))) (pd_r 4))) (pd_sq (pd_set 7 sc.nd (pd_NF (pd_lst (pd_a1 pd_non (pd_a1 pd_bl (pd_a1 pd_bl (pd_a1 pd_int (pd_a1 pd_int (pd_a1 (pd_neg (pd_R pd_int)) (pd_a1 pd_int (pd_a1 pd_int (pd_a1 (pd_neg (pd_R pd_int)) (pd_a1 (pd_neg (pd_R pd_int)) (pd_a1 pd_str (pd_a1 (pd_tup pd_a0) (pd_a1 (pd_tup (pd_a1 pd_int pd_a0)) (pd_a1 (pd_NF (pd_lst (pd_a1 pd_int pd_a0))) pd_a0)))))))))))))))))
  (pd_s1 (pd_stI 3 (pd_cl c__law_chosen hr (Nat.le_trans (by decide) hk0) passE (pd_a1 (pd_n 0) (pd_a1 (pd_n 7) pd_a0))) (pd_r 4)))))
  (pd_s1 (pd_rt (pd_tupL X.m_tuple (pd_o 3)))))))))))))))

theorem ok__law_variant {f : Addr} {fd : FuncData} (F : L2.Fun K "_law_variant" "_law_variant" s__law_variant f fd) (X : Txt K mg A) (g : mg "_law_variant" = some (.ref f)) (c__law_pick : Cl P w K mg base 1 "_law_pick" (spD K T 2 (f__law_pick A))) (c__law_any_value : Cl P w K mg base 6 "_law_any_value" (spD K T 2 (r__law_any_value A 4))) (c__law_chosen : Cl P w K mg base 2 "_law_chosen" (spD K T 2 (f__law_chosen A))) : ∀ n, Cl P w K mg base (6 + n) "_law_variant" (spD K T 3 (r__law_variant A n))
  | 0 => ⟨f, fd, ["source", "value", "deep"], ⟨fun vs H Q E ⟨s, G, ds, P, EP, _, _, _, _, _, h, _⟩ => h.elim, fun A outer s H args us vs Q E _ _ _ _ ⟨s0, G, ds, P, EP, _, _, _, _, _, h, _⟩ => h.elim⟩, g, F.kp, F.binds fun _ _ _ _ _ _ us hl => match us, hl with | [_, _, _], _ => rfl⟩
  | n + 1 => ok1__law_variant F X g c__law_pick c__law_any_value c__law_chosen (Nat.le_add_right _ _) (ok__law_variant F X g c__law_pick c__law_any_value c__law_chosen n)

abbrev s__law_whole : Stmt := topS 37
theorem ok__law_whole {f : Addr} {fd : FuncData} (F : L2.Fun K "_law_whole" "_law_whole" s__law_whole f fd) (X : Txt K mg A) (g : mg "_law_whole" = some (.ref f))  : Cl P w K mg base 1 "_law_whole" (spD K T 3 (f__law_whole A)) := by
  have sc : FnScope N__law_whole ["value", "low", "high"] (defScope s__law_whole) := ⟨rfl, rfl, rfl, by decide +kernel, rfl, by decide +kernel, by decide +kernel⟩
  refine ⟨f, fd, ["value", "low", "high"], fn_D F sc rfl fun cdv Ar outer s H E hr => ?_, g, F.kp, F.binds fun _ _ _ _ _ _ us hl => match us, hl with | [_, _, _], _ => rfl⟩
  exact (pd_s1 (pd_rt (pd_andV (pd_R (pd_isi .int X.m_isinstance X.m_int (by decide +kernel) (pd_r 0))) (pd_andV (pd_R (pd_notV (pd_R (pd_isi .bl X.m_isinstance X.m_bool (by decide +kernel) (pd_r 0))))) (pd_oneF (pd_lele (pd_r 1) (pd_r 0) (pd_r 2)))))))

abbrev s__law_error : Stmt := topS 38
theorem ok__law_error {f : Addr} {fd : FuncData} (F : L2.Fun K "_law_error" "_law_error" s__law_error f fd) (X : Txt K mg A) (g : mg "_law_error" = some (.ref f)) : ClE P w K mg base T 1 "_law_error" (f__law_error A) := by
  have sc : FnScope N__law_error ["e"] (defScope s__law_error) := ⟨rfl, rfl, rfl, by decide +kernel, rfl, by decide +kernel, by decide +kernel⟩
  refine ⟨f, fd, ["e"], fn_E (Cs A) (k := 0) F sc rfl fun cdv Ar outer s H p C hr hot hz hC => ?_, g, F.kp, F.binds fun _ _ _ _ _ _ us hl => match us, hl with | [_], _ => rfl⟩
  have hp : p ∈ [p] := List.mem_singleton.mpr rfl
  exact (pd_sq (pd_setN 1 sc.nd (pd_lst (pd_a1 (pd_tup (pd_a1 pd_str (pd_a1 (pd_isE hp hz (X.ec C hC) (X.kit C hC "InvalidScript" (by decide)) X.m_isinstance X.g_InvalidScript (pd_r 0)) pd_a0))) (pd_a1 (pd_tup (pd_a1 pd_str (pd_a1 (pd_isE hp hz (X.ec C hC) (X.kit C hC "InvalidRing" (by decide)) X.m_isinstance X.g_InvalidRing (pd_r 0)) pd_a0))) pd_a0))))
  (pd_sq (pd_setN 1 sc.nd (pd_catL (pd_o 1) (pd_NL (pd_lst (pd_a1 (pd_tup (pd_a1 pd_str (pd_a1 (pd_isE hp hz (X.ec C hC) (X.kit C hC "InvalidPeg" (by decide)) X.m_isinstance X.g_InvalidPeg (pd_r 0)) pd_a0))) (pd_a1 (pd_tup (pd_a1 pd_str (pd_a1 (pd_isE hp hz (X.ec C hC) (X.kit C hC "InvalidIndex" (by decide)) X.m_isinstance X.g_InvalidIndex (pd_r 0)) pd_a0))) pd_a0))))))
  (pd_sq (pd_setN 1 sc.nd (pd_catL (pd_o 1) (pd_NL (pd_lst (pd_a1 (pd_tup (pd_a1 pd_str (pd_a1 (pd_isE hp hz (X.ec C hC) (X.kit C hC "InvalidWord" (by decide)) X.m_isinstance X.g_InvalidWord (pd_r 0)) pd_a0))) (pd_a1 (pd_tup (pd_a1 pd_str (pd_a1 (pd_isE hp hz (X.ec C hC) (X.kit C hC "InvalidLength" (by decide)) X.m_isinstance X.g_InvalidLength (pd_r 0)) pd_a0))) pd_a0))))))
  (pd_sq (pd_setN 1 sc.nd (pd_catL (pd_o 1) (pd_NL (pd_lst (pd_a1 (pd_tup (pd_a1 pd_str (pd_a1 (pd_isE hp hz (X.ec C hC) (X.kit C hC "InvalidSeen" (by decide)) X.m_isinstance X.g_InvalidSeen (pd_r 0)) pd_a0))) (pd_a1 (pd_tup (pd_a1 pd_str (pd_a1 (pd_isE hp hz (X.ec C hC) (X.kit C hC "InvalidNumber" (by decide)) X.m_isinstance X.g_InvalidNumber (pd_r 0)) pd_a0))) pd_a0))))))
  (pd_sq (pd_setN 1 sc.nd (pd_catL (pd_o 1) (pd_NL (pd_lst (pd_a1 (pd_tup (pd_a1 pd_str (pd_a1 (pd_isE hp hz (X.ec C hC) (X.kit C hC "InvalidText" (by decide)) X.m_isinstance X.g_InvalidText (pd_r 0)) pd_a0))) (pd_a1 (pd_tup (pd_a1 pd_str (pd_a1 (pd_isE hp hz (X.ec C hC) (X.kit C hC "AllLaid" (by decide)) X.m_isinstance X.g_AllLaid (pd_r 0)) pd_a0))) pd_a0))))))
  (pd_sq (pd_app 1 (pd_tup (pd_a1 pd_str (pd_a1 (pd_isE hp hz (X.ec C hC) (X.kit C hC "NothingToUndo" (by decide)) X.m_isinstance X.g_NothingToUndo (pd_r 0)) pd_a0))))
  (pd_s1 (pd_rt (pd_join (pd_R pd_str) (pd_NL (pd_lcH (own := [("word_so", 2), ("good", 3)]) hot sc.nd (pd_o 1) (blkOk_by (N := N__law_error) (sc := defScope s__law_error) (by decide +kernel)) (by decide) (fun _ _ _ _ _ => (pd_gtupH hot (pd_gs1 2 sc.nd (pd_gs1 3 sc.nd pd_gs0)))) (fun _ _ _ _ _ => (pd_ts1 (pd_t (pd_r 3)))) (fun _ _ _ _ _ => (pd_n 2)))))))))))))

abbrev s__law_refused : Stmt := topS 39
abbrev s__law_by_one : Stmt := topS 40
theorem ok__law_by_one {fd fdr : FuncData} {fr : Addr} {Φ : Addr → Nat → Option Fn} (F : L2.Fun K "_law_by_one" "_law_by_one" s__law_by_one (He.fAd K ("_law_by_one", none)) fd) (X : Txt K mg A) (g : mg "_law_by_one" = some (.ref (He.fAd K ("_law_by_one", none)))) (Fr : L2.Fun K "_law_refused" "_law_refused" s__law_refused fr fdr) (gr : mg "_law_refused" = some (.ref fr)) (ce : ClE P w K mg base T 1 "_law_error" (f__law_error A)) (TB : Tb K base mg T "_law_by_one") (cv : ∀ f n φ, Φ f n = some φ → ClA P w K mg base T 5 f n φ) : Cl P w K mg base 8 "_law_by_one" (spD K T 2 (f__law_by_one K A Φ)) := by
  have sc : FnScope N__law_by_one ["call", "one"] (defScope s__law_by_one) := ⟨rfl, rfl, rfl, by decide +kernel, rfl, by decide +kernel, by decide +kernel⟩
  have sr : FnScope ["call", "e"] ["call"] (defScope s__law_refused) := ⟨rfl, rfl, rfl, by decide +kernel, rfl, by decide +kernel, by decide +kernel⟩
  refine ⟨_, fd, ["call", "one"], fn_Dc F sc rfl fun Ar outer s H E hr => ?_, g, F.kp, F.binds fun _ _ _ _ _ _ us hl => match us, hl with | [_, _], _ => rfl⟩
  exact (pd_s1 (pd_rt (pd_ref Fr rfl rfl sr rfl rfl rfl rfl (Fr.binds fun _ _ _ _ _ _ us hl => match us, hl with | [_], _ => rfl) gr X.g_WindError ce TB.tb rfl TB.mem TB.un hr (by decide) (lamS_by (sc := defScope s__law_by_one) (by decide +kernel)) (fun A' outer s H E f c' hr2 hpl => pd_clV 0 cv hr2 (Nat.le_refl _) hpl (pd_a1 (pd_n 1) pd_a0)) rfl (fun _ _ _ _ _ => rfl))))

abbrev s__law_by_two : Stmt := topS 41
theorem ok__law_by_two {fd fdr : FuncData} {fr : Addr} {Φ : Addr → Nat → Option Fn} (F : L2.Fun K "_law_by_two" "_law_by_two" s__law_by_two (He.fAd K ("_law_by_two", none)) fd) (X : Txt K mg A) (g : mg "_law_by_two" = some (.ref (He.fAd K ("_law_by_two", none)))) (Fr : L2.Fun K "_law_refused" "_law_refused" s__law_refused fr fdr) (gr : mg "_law_refused" = some (.ref fr)) (ce : ClE P w K mg base T 1 "_law_error" (f__law_error A)) (TB : Tb K base mg T "_law_by_two") (cv : ∀ f n φ, Φ f n = some φ → ClA P w K mg base T 5 f n φ) : Cl P w K mg base 8 "_law_by_two" (spD K T 3 (f__law_by_two K A Φ)) := by
  have sc : FnScope N__law_by_two ["call", "one", "other"] (defScope s__law_by_two) := ⟨rfl, rfl, rfl, by decide +kernel, rfl, by decide +kernel, by decide +kernel⟩
  have sr : FnScope ["call", "e"] ["call"] (defScope s__law_refused) := ⟨rfl, rfl, rfl, by decide +kernel, rfl, by decide +kernel, by decide +kernel⟩
  refine ⟨_, fd, ["call", "one", "other"], fn_Dc F sc rfl fun Ar outer s H E hr => ?_, g, F.kp, F.binds fun _ _ _ _ _ _ us hl => match us, hl with | [_, _, _], _ => rfl⟩
  exact (pd_s1 (pd_rt (pd_ref Fr rfl rfl sr rfl rfl rfl rfl (Fr.binds fun _ _ _ _ _ _ us hl => match us, hl with | [_], _ => rfl) gr X.g_WindError ce TB.tb rfl TB.mem TB.un hr (by decide) (lamS_by (sc := defScope s__law_by_two) (by decide +kernel)) (fun A' outer s H E f c' hr2 hpl => pd_clV 0 cv hr2 (Nat.le_refl _) hpl (pd_a1 (pd_n 1) (pd_a1 (pd_n 2) pd_a0))) rfl (fun _ _ _ _ _ => rfl))))

abbrev s__law_drawn_steps : Stmt := topS 42
theorem ok__law_drawn_steps {f : Addr} {fd : FuncData} (F : L2.Fun K "_law_drawn_steps" "_law_drawn_steps" s__law_drawn_steps f fd) (X : Txt K mg A) (g : mg "_law_drawn_steps" = some (.ref f)) (c__law_pick : Cl P w K mg base 1 "_law_pick" (spD K T 2 (f__law_pick A))) (c__law_chosen : Cl P w K mg base 2 "_law_chosen" (spD K T 2 (f__law_chosen A))) : Cl P w K mg base 3 "_law_drawn_steps" (spD K T 2 (f__law_drawn_steps A)) := by
  have sc : FnScope N__law_drawn_steps ["source", "most"] (defScope s__law_drawn_steps) := ⟨rfl, rfl, rfl, by decide +kernel, rfl, by decide +kernel, by decide +kernel⟩
  refine ⟨f, fd, ["source", "most"], fn_D F sc rfl fun cdv Ar outer s H E hr => ?_, g, F.kp, F.binds fun _ _ _ _ _ _ us hl => match us, hl with | [_, _], _ => rfl⟩
  exact (pd_sq (pd_set 2 sc.nd (pd_tup pd_a0))
  (pd_sq (pd_forR1 PassesOwn.leaving rfl X.m_range (pd_b1 (pd_R (pd_add (pd_R pd_int) (pd_R (pd_cl c__law_pick hr (by decide) passE (pd_a1 (pd_n 0) (pd_a1 (pd_n 1) pd_a0)))))) pd_b0) (pd_gn 3 sc.nd)
  (pd_sq (pd_set 4 sc.nd (pd_add (pd_R pd_int) (pd_R (pd_cl c__law_pick hr (by decide) passE (pd_a1 (pd_n 0) (pd_a1 (pd_cl c__law_chosen hr (by decide) passE (pd_a1 (pd_n 0) (pd_a1 (pd_NF (pd_lst (pd_a1 pd_int (pd_a1 pd_int (pd_a1 pd_int pd_a0))))) pd_a0))) pd_a0))))))
  (pd_s1 (pd_set 2 sc.nd (pd_catT (pd_n 2) (pd_tup (pd_a1 (pd_mul (pd_r 4) (pd_R (pd_cl c__law_chosen hr (by decide) passE (pd_a1 (pd_n 0) (pd_a1 (pd_NF (pd_lst (pd_a1 pd_int (pd_a1 pd_int (pd_a1 (pd_neg (pd_R pd_int)) pd_a0))))) pd_a0))))) pd_a0)))))))
  (pd_s1 (pd_rt (pd_ifF (pd_tne hr.units (pd_R (pd_sum rfl X.m_sum (pd_b1 (pd_r 2) pd_b0))) (pd_R pd_int)) (pd_n 2) (pd_slT (pd_n 2) pd_o0 (pd_o1 (pd_R pd_int))))))))

abbrev s__law_good : Stmt := topS 43
theorem ok__law_good {f : Addr} {fd : FuncData} (F : L2.Fun K "_law_good" "_law_good" s__law_good f fd) (X : Txt K mg A) (g : mg "_law_good" = some (.ref f)) (c__law_wide : Cl P w K mg base 1 "_law_wide" (spD K T 3 (f__law_wide A))) (c__law_whole : Cl P w K mg base 1 "_law_whole" (spD K T 3 (f__law_whole A))) : Cl P w K mg base 2 "_law_good" (spD K T 1 (f__law_good A)) := by
  have sc : FnScope N__law_good ["value"] (defScope s__law_good) := ⟨rfl, rfl, rfl, by decide +kernel, rfl, by decide +kernel, by decide +kernel⟩
  refine ⟨f, fd, ["value"], fn_D F sc rfl fun cdv Ar outer s H E hr => ?_, g, F.kp, F.binds fun _ _ _ _ _ _ us hl => match us, hl with | [_], _ => rfl⟩
  exact (pd_sq (pd_if (PW.pt (pd_or (pd_notT (pd_t (pd_R (pd_cl c__law_wide hr (by decide) passE (pd_a1 (pd_n 0) (pd_a1 pd_int (pd_a1 pd_int pd_a0))))))) (pd_or1 (pd_tne hr.units (pd_R (pd_NF (pd_lcT (own := [("one", 1)]) rfl sc.nd (pd_n 0) (blkOk_by (N := N__law_good) (sc := defScope s__law_good) (by decide +kernel)) (by decide) (fun _ _ _ _ _ => (pd_gn 1 sc.nd)) (fun _ _ _ _ _ => (pd_ts1 (pd_notT (pd_t (pd_R (pd_cl c__law_whole hr (by decide) (pass_E0 rfl rfl) (pd_a1 (pd_n 1) (pd_a1 (pd_neg (pd_R pd_int)) (pd_a1 pd_int pd_a0))))))))) (fun _ _ _ _ _ => (pd_n 1))))) (pd_R (pd_NF (pd_lst pd_a0))))))) (pd_s1 (pd_rt pd_bl)) pd_nil)
  (pd_s1 (pd_rt (pd_andV (pd_R (pd_nin (pd_R pd_int) (pd_r 0))) (pd_oneF (pd_ne hr.units (pd_R (pd_sum rfl X.m_sum (pd_b1 (pd_r 0) pd_b0))) (pd_R pd_int)))))))

abbrev s_law : Stmt := topS 44
theorem ok_law {f : Addr} {fd : FuncData} {n : Nat} {Φ : Addr → Nat → Option Fn} (F : L2.Fun K "law" "law" s_law f fd) (X : Txt K mg A) (hL : LawD N_law (t_law A K Φ) n) (c__law_source : Cl P w K mg base 1 "_law_source" (spN K T 2 (f__law_source A))) (c__law_drawn_steps : Cl P w K mg base 3 "_law_drawn_steps" (spD K T 2 (f__law_drawn_steps A))) (c__law_variant : Cl P w K mg base 11 "_law_variant" (spD K T 3 (r__law_variant A 5))) (c_divisors : Cl P w K mg base 5 "divisors" (spN K T 1 (f_divisors A))) (c__law_any_value : Cl P w K mg base 6 "_law_any_value" (spD K T 2 (r__law_any_value A 4))) (c__law_is_bool : Cl P w K mg base 1 "_law_is_bool" (spD K T 2 (f__law_is_bool A))) (c__law_pick : Cl P w K mg base 1 "_law_pick" (spD K T 2 (f__law_pick A))) (c_divisor : Cl P w K mg base 5 "divisor" (spD K T 2 (f_divisor A))) (c_is_script : Cl P w K mg base 4 "is_script" (spD K T 1 (f_is_script A))) (c__law_good : Cl P w K mg base 2 "_law_good" (spD K T 1 (f__law_good A))) (c_total : Cl P w K mg base 5 "total" (spD K T 1 (f_total A))) (c__law_by_one : Cl P w K mg base 8 "_law_by_one" (spD K T 2 (f__law_by_one K A Φ))) (c__law_by_two : Cl P w K mg base 8 "_law_by_two" (spD K T 3 (f__law_by_two K A Φ))) : FnOk P w K mg base (L2N.CX P w) 12 f fd ["script"] (spLaw K T n) := by
  have sc : FnScope N_law ["script"] (defScope s_law) := ⟨rfl, rfl, rfl, by decide +kernel, rfl, by decide +kernel, by decide +kernel⟩
  refine fn_law F sc rfl hL fun cdv Ar outer s H E hr => ?_
  exact (show PSs _ _ (lS K T E (full_law A K Φ)) from (pd_sq (pd_forR1 PassesOwn.leaving rfl X.m_range (pd_b1 (pd_R (pd_max rfl X.m_max (pd_b1 (pd_R pd_int) (pd_b1 (pd_R (pd_min rfl X.m_min (pd_b1 (pd_R pd_int) (pd_b1 (pd_R (pd_len X.m_len (pd_b1 (pd_r 0) pd_b0))) pd_b0)))) pd_b0)))) pd_b0) (pd_gn 1 sc.nd)
  (pd_sq (pd_srcS 2 sc.nd (pd_clN c__law_source hr (by decide) passE (pd_a1 (pd_n 0) (pd_a1 (pd_n 1) pd_a0))))
  (pd_sq (pd_set 3 sc.nd (pd_cl c__law_drawn_steps hr (by decide) passE (pd_a1 (pd_n 2) (pd_a1 pd_int pd_a0))))
  (pd_sq (pd_setN 4 sc.nd (pd_lst (pd_a1 (pd_n 3) (pd_a1 (pd_NF (pd_listT X.m_list (pd_n 3))) (pd_a1 (pd_catT (pd_n 3) (pd_n 3)) (pd_a1 (pd_slT (pd_n 3) pd_o0 (pd_o1 (pd_R pd_int))) (pd_a1 (pd_tup (pd_a1 pd_int pd_a0)) (pd_a1 (pd_tup (pd_a1 pd_int (pd_a1 (pd_neg (pd_R pd_int)) pd_a0))) (pd_a1 (pd_catT (pd_n 3) (pd_tup (pd_a1 (pd_neg (pd_R (pd_sum rfl X.m_sum (pd_b1 (pd_r 3) pd_b0)))) pd_a0))) (pd_a1 pd_int pd_a0))))))))))
  (pd_sq (pd_forR1 PassesOwn.leaving rfl X.m_range (pd_b1 (pd_R pd_int) pd_b0) (pd_gn 5 sc.nd)
  (pd_sq (pd_set 6 sc.nd (pd_cl c__law_variant hr (by decide) passE (pd_a1 (pd_n 2) (pd_a1 (pd_n 3) (pd_a1 pd_int pd_a0)))))
  (pd_sq (pd_app 4 (pd_n 6))
  (pd_s1 (pd_if (PW.pt (pd_and (pd_t (pd_R (pd_isi .tup X.m_isinstance X.m_tuple (by decide +kernel) (pd_r 6)))) (pd_and1 (pd_teq hr.units (pd_R (pd_cl c__law_pick hr (by decide) passE (pd_a1 (pd_n 2) (pd_a1 pd_int pd_a0)))) (pd_R pd_int))))) (pd_s1 (pd_app 4 (pd_cl c__law_variant hr (by decide) passE (pd_a1 (pd_n 2) (pd_a1 (pd_n 6) (pd_a1 pd_int pd_a0)))))) pd_nil)))))
  (pd_sq (pd_for PassesOwn.leaving rfl (pd_NF (pd_catL (pd_o 4) (pd_NL (pd_lst (pd_a1 (pd_cl c__law_any_value hr (by decide) passE (pd_a1 (pd_n 2) (pd_a1 pd_int pd_a0))) pd_a0))))) (pd_gn 7 sc.nd)
  (pd_s1 (pd_if (pd_notT (pd_t (pd_R (pd_cl c__law_is_bool hr (by decide) passE (pd_a1 (pd_cl c_is_script hr (by decide) passE (pd_a1 (pd_n 7) pd_a0)) (pd_a1 (pd_cl c__law_good hr (by decide) passE (pd_a1 (pd_n 7) pd_a0)) pd_a0)))))) (pd_s1 (pd_rt pd_bl)) pd_nil)))
  (pd_sq (pd_set 8 sc.nd (pd_abs X.m_abs (pd_b1 (pd_R (pd_sum rfl X.m_sum (pd_b1 (pd_r 3) pd_b0))) pd_b0)))
  (pd_sq (pd_setLfR2 9 (own := [("part", 10)]) rfl sc.nd X.m_range (pd_b1 (pd_R pd_int) (pd_b1 (pd_R (pd_add (pd_r 8) (pd_R pd_int))) pd_b0)) (blkOk_by (N := N_law) (sc := defScope s_law) (by decide +kernel)) (by decide) (fun _ _ _ _ _ => (pd_gn 10 sc.nd)) (fun _ _ _ _ _ => (pd_ts1 (pd_teq hr.units (pd_R (pd_mod (pd_r 8) (pd_r 10))) (pd_R pd_int)))) (fun _ _ _ _ _ => (pd_n 10)) (sw_true rfl rfl rfl (by decide +kernel)))
  (pd_sq (pd_forR1 PassesOwn.leaving rfl X.m_range (pd_b1 (pd_R pd_int) pd_b0) (pd_gn 11 sc.nd)
  (pd_sq (pd_setN 12 sc.nd (pd_clN c_divisors hr (by decide) passE (pd_a1 (pd_n 3) pd_a0)))
  (pd_sq (pd_if (PW.pt (pd_or (pd_tne hr.units (pd_R (pd_cl c_total hr (by decide) passE (pd_a1 (pd_n 3) pd_a0))) (pd_R (pd_sum rfl X.m_sum (pd_b1 (pd_r 3) pd_b0)))) (pd_or (pd_notT (pd_t (pd_R (pd_isi .lst X.m_isinstance X.m_list (by decide +kernel) (pd_r 12))))) (pd_or1 (pd_tne hr.units (pd_r 12) (pd_r 9)))))) (pd_s1 (pd_rt pd_bl)) pd_nil)
  (pd_s1 (pd_app 12 pd_int)))))
  (pd_sq (pd_for PassesOwn.leaving rfl (pd_NF (pd_lst (pd_a1 pd_int (pd_a1 (pd_add (pd_R pd_int) (pd_R (pd_cl c__law_pick hr (by decide) passE (pd_a1 (pd_n 2) (pd_a1 pd_int pd_a0))))) (pd_a1 (pd_mul (pd_r 8) (pd_R pd_int)) (pd_a1 (pd_pow (pd_R pd_int) (pd_R pd_int)) (pd_a1 (pd_add (pd_R (pd_pow (pd_R pd_int) (pd_R pd_int))) (pd_R (pd_cl c__law_pick hr (by decide) passE (pd_a1 (pd_n 2) (pd_a1 (pd_pow (pd_R pd_int) (pd_R pd_int)) pd_a0))))) pd_a0))))))) (pd_gn 13 sc.nd)
  (pd_s1 (pd_if (pd_tne hr.units (pd_R (pd_cl c_divisor hr (by decide) passE (pd_a1 (pd_n 3) (pd_a1 (pd_n 13) pd_a0)))) (pd_R (pd_max rfl X.m_max (pd_b1 (pd_R (pd_NF (pd_lc (own := [("part", 10)]) rfl sc.nd (pd_FL (pd_n 9)) (blkOk_by (N := N_law) (sc := defScope s_law) (by decide +kernel)) (by decide) (fun _ _ _ _ _ => (pd_gn 10 sc.nd)) (fun _ _ _ _ _ => (pd_ts1 (pd_teq hr.units (pd_R (pd_mod (pd_r 13) (pd_r 10))) (pd_R pd_int)))) (fun _ _ _ _ _ => (pd_n 10))))) pd_b0)))) (pd_s1 (pd_rt pd_bl)) pd_nil)))
  (pd_sq (pd_for PassesOwn.leaving rfl (pd_NF (pd_lst (pd_a1 pd_non (pd_a1 (pd_tup pd_a0) (pd_a1 (pd_NF (pd_listT X.m_list (pd_n 3))) (pd_a1 (pd_tup (pd_a1 pd_int pd_a0)) (pd_a1 (pd_tup (pd_a1 pd_int (pd_a1 (pd_neg (pd_R pd_int)) pd_a0))) (pd_a1 (pd_tup (pd_a1 pd_int pd_a0)) pd_a0)))))))) (pd_gn 6 sc.nd)
  (pd_sq (pd_set 14 sc.nd (pd_NF (pd_lst (pd_a1 (pd_cl c__law_by_one hr (by decide) passE (pd_a1 (pd_gref X.g_total rfl) (pd_a1 (pd_n 6) pd_a0))) (pd_a1 (pd_cl c__law_by_one hr (by decide) passE (pd_a1 (pd_gref X.g_divisors rfl) (pd_a1 (pd_n 6) pd_a0))) (pd_a1 (pd_cl c__law_by_two hr (by decide) passE (pd_a1 (pd_gref X.g_divisor rfl) (pd_a1 (pd_n 6) (pd_a1 pd_non pd_a0)))) pd_a0))))))
  (pd_s1 (pd_if (pd_tne hr.units (pd_r 14) (pd_R (pd_NF (pd_repL (pd_NL (pd_lst (pd_a1 pd_str pd_a0))) (pd_R pd_int))))) (pd_s1 (pd_rt pd_bl)) pd_nil))))
  (pd_s1 (pd_for PassesOwn.leaving rfl (pd_NF (pd_lst (pd_a1 pd_non (pd_a1 pd_int (pd_a1 pd_bl (pd_a1 (pd_add (pd_R (pd_pow (pd_R pd_int) (pd_R pd_int))) (pd_R pd_int)) (pd_a1 pd_str pd_a0))))))) (pd_gn 6 sc.nd)
  (pd_s1 (pd_if (pd_tne hr.units (pd_R (pd_cl c__law_by_two hr (by decide) passE (pd_a1 (pd_gref X.g_divisor rfl) (pd_a1 (pd_n 3) (pd_a1 (pd_n 6) pd_a0))))) (pd_R pd_str)) (pd_s1 (pd_rt pd_bl)) pd_nil)))))))))))))))
  (pd_sq (pd_set 15 sc.nd (pd_NF (pd_lst (pd_a1 (pd_tup (pd_a1 (pd_repT (pd_tup (pd_a1 pd_int pd_a0)) (pd_R pd_int)) (pd_a1 pd_bl pd_a0))) (pd_a1 (pd_tup (pd_a1 (pd_repT (pd_tup (pd_a1 pd_int pd_a0)) (pd_R pd_int)) (pd_a1 pd_bl pd_a0))) (pd_a1 (pd_tup (pd_a1 (pd_tup (pd_a1 pd_bl pd_a0)) (pd_a1 pd_bl pd_a0))) (pd_a1 (pd_tup (pd_a1 (pd_tup (pd_a1 pd_int (pd_a1 pd_int pd_a0))) (pd_a1 pd_bl pd_a0))) (pd_a1 (pd_tup (pd_a1 (pd_tup (pd_a1 (pd_neg (pd_R pd_int)) pd_a0)) (pd_a1 pd_bl pd_a0))) (pd_a1 (pd_tup (pd_a1 (pd_tup (pd_a1 pd_int (pd_a1 (pd_neg (pd_R pd_int)) pd_a0))) (pd_a1 pd_bl pd_a0))) pd_a0)))))))))
  (pd_s1 (pd_rt (pd_eq hr.units (pd_R (pd_NF (pd_lc (own := [("value", 7), ("due", 9)]) rfl sc.nd (pd_FL (pd_n 15)) (blkOk_by (N := N_law) (sc := defScope s_law) (by decide +kernel)) (by decide) (fun _ _ _ _ _ => (pd_gtup rfl (pd_gs1 7 sc.nd (pd_gs1 9 sc.nd pd_gs0)))) (fun _ _ _ _ _ => (pd_ts1 (pd_tne hr.units (pd_R (pd_cl c_is_script hr (by decide) (pass_E0 rfl rfl) (pd_a1 (pd_n 7) pd_a0))) (pd_r 9)))) (fun _ _ _ _ _ => (pd_n 7))))) (pd_R (pd_NF (pd_lst pd_a0)))))))))

end
end Rw

set_option Elab.async false
set_option linter.all false
set_option maxRecDepth 100000
set_option maxHeartbeats 0
namespace Rw
open PySem PySem.Spec PyProof.Rows L2 Wn
def d_is_within : He.DefD := ⟨("is_within", none), "is_within", "is_within", defArgs s_is_within, defBody s_is_within, defScope s_is_within, [], []⟩
def d_is_step : He.DefD := ⟨("is_step", none), "is_step", "is_step", defArgs s_is_step, defBody s_is_step, defScope s_is_step, [], []⟩
def d_is_right_script : He.DefD := ⟨("is_right_script", none), "is_right_script", "is_right_script", defArgs s_is_right_script, defBody s_is_right_script, defScope s_is_right_script, [], []⟩
def d_need_script : He.DefD := ⟨("need_script", none), "need_script", "need_script", defArgs s_need_script, defBody s_need_script, defScope s_need_script, [], []⟩
def d_need_ring : He.DefD := ⟨("need_ring", none), "need_ring", "need_ring", defArgs s_need_ring, defBody s_need_ring, defScope s_need_ring, [], []⟩
def d_shared : He.DefD := ⟨("shared", none), "shared", "shared", defArgs s_shared, defBody s_shared, defScope s_shared, [], []⟩
def d_divisors_of : He.DefD := ⟨("divisors_of", none), "divisors_of", "divisors_of", defArgs s_divisors_of, defBody s_divisors_of, defScope s_divisors_of, [], []⟩
def d_is_script : He.DefD := ⟨("is_script", none), "is_script", "is_script", defArgs s_is_script, defBody s_is_script, defScope s_is_script, [], []⟩
def d_total : He.DefD := ⟨("total", none), "total", "total", defArgs s_total, defBody s_total, defScope s_total, [], []⟩
def d_divisors : He.DefD := ⟨("divisors", none), "divisors", "divisors", defArgs s_divisors, defBody s_divisors, defScope s_divisors, [], []⟩
def d_divisor : He.DefD := ⟨("divisor", none), "divisor", "divisor", defArgs s_divisor, defBody s_divisor, defScope s_divisor, [], []⟩
def d__law_source : He.DefD := ⟨("_law_source", none), "_law_source", "_law_source", defArgs s__law_source, defBody s__law_source, defScope s__law_source, [], []⟩
def d__law_pick : He.DefD := ⟨("_law_pick", none), "_law_pick", "_law_pick", defArgs s__law_pick, defBody s__law_pick, defScope s__law_pick, [], []⟩
def d__law_chosen : He.DefD := ⟨("_law_chosen", none), "_law_chosen", "_law_chosen", defArgs s__law_chosen, defBody s__law_chosen, defScope s__law_chosen, [], []⟩
def d__law_is_bool : He.DefD := ⟨("_law_is_bool", none), "_law_is_bool", "_law_is_bool", defArgs s__law_is_bool, defBody s__law_is_bool, defScope s__law_is_bool, [], []⟩
def d__law_wide : He.DefD := ⟨("_law_wide", none), "_law_wide", "_law_wide", defArgs s__law_wide, defBody s__law_wide, defScope s__law_wide, [], []⟩
def d__law_any_value : He.DefD := ⟨("_law_any_value", none), "_law_any_value", "_law_any_value", defArgs s__law_any_value, defBody s__law_any_value, defScope s__law_any_value, [], []⟩
def d__law_variant : He.DefD := ⟨("_law_variant", none), "_law_variant", "_law_variant", defArgs s__law_variant, defBody s__law_variant, defScope s__law_variant, [], []⟩
def d__law_whole : He.DefD := ⟨("_law_whole", none), "_law_whole", "_law_whole", defArgs s__law_whole, defBody s__law_whole, defScope s__law_whole, [], []⟩
def d__law_error : He.DefD := ⟨("_law_error", none), "_law_error", "_law_error", defArgs s__law_error, defBody s__law_error, defScope s__law_error, [], []⟩
def d__law_refused : He.DefD := ⟨("_law_refused", none), "_law_refused", "_law_refused", defArgs s__law_refused, defBody s__law_refused, defScope s__law_refused, [], []⟩
def d__law_by_one : He.DefD := ⟨("_law_by_one", none), "_law_by_one", "_law_by_one", defArgs s__law_by_one, defBody s__law_by_one, defScope s__law_by_one, [], []⟩
def d__law_by_two : He.DefD := ⟨("_law_by_two", none), "_law_by_two", "_law_by_two", defArgs s__law_by_two, defBody s__law_by_two, defScope s__law_by_two, [], []⟩
def d__law_drawn_steps : He.DefD := ⟨("_law_drawn_steps", none), "_law_drawn_steps", "_law_drawn_steps", defArgs s__law_drawn_steps, defBody s__law_drawn_steps, defScope s__law_drawn_steps, [], []⟩
def d__law_good : He.DefD := ⟨("_law_good", none), "_law_good", "_law_good", defArgs s__law_good, defBody s__law_good, defScope s__law_good, [], []⟩
def d_law : He.DefD := ⟨("law", none), "law", "law", defArgs s_law, defBody s_law, defScope s_law, [], []⟩
def fn : List He.DefD := ([d_is_within, d_is_step, d_is_right_script, d_need_script, d_need_ring, d_shared, d_divisors_of, d_is_script, d_total, d_divisors, d_divisor, d__law_source, d__law_pick, d__law_chosen, d__law_is_bool, d__law_wide, d__law_any_value, d__law_variant, d__law_whole, d__law_error] : List He.DefD) ++ ([d__law_refused, d__law_by_one, d__law_by_two, d__law_drawn_steps, d__law_good, d_law] : List He.DefD)
def fa : List He.Fa := ([.glo "is_within", .glo "is_step", .glo "is_right_script", .glo "need_script", .glo "need_ring", .glo "shared", .glo "divisors_of", .glo "is_script", .glo "total", .glo "divisors", .glo "divisor", .glo "_law_source", .glo "_law_pick", .glo "_law_chosen", .glo "_law_is_bool", .glo "_law_wide", .glo "_law_any_value", .glo "_law_variant", .glo "_law_whole", .glo "_law_error"] : List He.Fa) ++ ([.glo "_law_refused", .glo "_law_by_one", .glo "_law_by_two", .glo "_law_drawn_steps", .glo "_law_good", .glo "law", .glo "WindError", .glo "InvalidScript", .glo "InvalidRing", .glo "InvalidPeg", .glo "InvalidIndex", .glo "InvalidWord", .glo "InvalidLength", .glo "InvalidSeen", .glo "InvalidNumber", .glo "InvalidText", .glo "AllLaid", .glo "NothingToUndo", .exc "InvalidScript", .exc "InvalidRing"] : List He.Fa) ++ ([.free "len", .free "range", .free "isinstance", .free "sum", .free "all", .free "abs", .free "max", .free "min", .free "int", .free "list", .free "tuple", .free "bool", .int "MOST_STEP" (11), .int "MOST_STEPS" (5), .int "LEAST_RING" (24), .int "MOST_RING" (1000000000000000000000000000000), .exm "InvalidScript" "WindError" true, .exm "InvalidRing" "WindError" true, .exm "InvalidPeg" "WindError" true, .exm "InvalidIndex" "WindError" true] : List He.Fa) ++ ([.exm "InvalidWord" "WindError" true, .exm "InvalidLength" "WindError" true, .exm "InvalidSeen" "WindError" true, .exm "InvalidNumber" "WindError" true, .exm "InvalidText" "WindError" true, .exm "AllLaid" "WindError" true, .exm "NothingToUndo" "WindError" true] : List He.Fa)
def excB (K : PySem.W.Frag) (D : Addr) : Bool := He.eqO (PySem.W.findIn K (.ref D) "__getattribute__") (some (some (.builtin "BaseException.__getattribute__"))) && (He.eqO (PySem.W.findIn K (.ref D) "__getattr__") (some none) && (decide (PySem.W.subIn K (.ref D) (.type "BaseException") = some true) && (PySem.W.hasDictIn K D && (He.eqO (PySem.W.findIn K (.ref D) "__class__") (some (some (.builtin "object.__class__"))) && (He.eqO (PySem.W.specialIn K (.builtin "object.__class__") "__get__") (some (some (.builtin "getset_descriptor.__get__"))) && (decide (PySem.W.takesIn K (.builtin "object.__class__") = some true) && decide (PySem.W.mroIn K D (.type "object") = some true)))))))
def pairB (K : PySem.W.Frag) (y x : Str) : Bool := decide (PySem.W.kitOne K (.ref (He.ga K y)) (.ref (He.ga K x)) = some (decide (He.ga K y = He.ga K x))) && (!decide (He.ga K y = He.ga K x) || decide (y = x))
def ex (K : PySem.W.Frag) : Bool := (errN.all fun y => excB K (He.ga K y) && errN.all fun x => pairB K y x) && (!decide (He.ga K "divisors" = He.ga K "total") && !decide (He.tabOf K (He.codeOf K ("_law_by_one", none)) = He.tabOf K (He.codeOf K ("_law_by_two", none))))
def tf : List He.Defn := [("_law_by_one", none), ("_law_by_two", none)]
abbrev R : PySem.W.OpenRow := PySem.W.OpenLaw.row PySem.Challenge.rw_ringwound_k01_scripts_and_their_divisors
abbrev hk : PySem.W.Hook := He.hookX 5 fa fn [] tf ex
def ob (s : PySem.W.SharedT) : He.AlX := He.obsX 5 fa fn [] tf ex (HandSHeadRun.getT s)
theorem ob_eq (s : PySem.W.SharedT) : ob s = hk.obs s.abs := He.obsX_eq (HandSHeadRun.getT_eq s)
def loose : List PySem.Str := (["WindError", "InvalidScript", "InvalidRing", "InvalidPeg", "InvalidIndex", "InvalidWord", "InvalidLength", "InvalidSeen", "InvalidNumber", "InvalidText", "AllLaid", "NothingToUndo", "MOST_STEP", "MOST_STEPS", "LEAST_RING", "MOST_RING", "is_within", "is_step", "is_right_script", "need_script"] : List PySem.Str) ++ (["need_ring", "shared", "divisors_of", "is_script", "total", "divisors", "divisor", "_law_source", "_law_pick", "_law_chosen", "_law_is_bool", "_law_wide", "_law_any_value", "_law_variant", "_law_whole", "_law_error", "_law_refused", "_law_by_one", "_law_by_two", "_law_drawn_steps"] : List PySem.Str) ++ (["_law_good"] : List PySem.Str)
theorem run (w : World) : HandSHeadRun.RunEq R (PySem.W.view R.prog [44]) hk ob 4000 loose w := by
  intro os
  kernel_rfl
end Rw

set_option Elab.async false
set_option linter.all false
set_option maxRecDepth 100000
set_option maxHeartbeats 4000000
namespace Rw
open PySem PySem.Spec PyProof.Rows L2 Wn LamX
theorem fun_of {K : PySem.W.Frag} {x : Str} {st : Stmt} {f : Addr} {fd : FuncData} (F : FunD K x x (defArgs st) (defBody st) (defScope st) [] [] f fd) : L2.Fun K x x st f fd := by
  obtain ⟨⟨oc, od, dV, kV, doc, pm, an, cdv, ct, osl, e, lk, hc, hd, hk⟩, kp⟩ := F
  have ed : dV = .none := hd.elim (fun z => z.2) fun z => absurd rfl z.1
  subst ed
  exact ⟨⟨oc, od, kV, doc, pm, an, cdv, ct, osl, e, lk, hc⟩, kp⟩
section
variable {P : Program} {w : World} {K : PySem.W.Frag} {h : Heap} {mg : Str → Option Value}
theorem ex_ok (c : ex K = true) : (∀ y ∈ errN, excB K (He.ga K y) = true ∧ ∀ x ∈ errN, pairB K y x = true) ∧ He.ga K "divisors" ≠ He.ga K "total" ∧ He.tabOf K (He.codeOf K ("_law_by_one", none)) ≠ He.tabOf K (He.codeOf K ("_law_by_two", none)) := by
  unfold ex at c
  rw [Bool.and_eq_true, Bool.and_eq_true, Bool.not_eq_true', Bool.not_eq_true', decide_eq_false_iff_not, decide_eq_false_iff_not] at c
  refine ⟨fun y hy => ?_, c.2⟩
  have q := List.all_eq_true.mp c.1 y hy
  rw [Bool.and_eq_true] at q
  exact ⟨q.1, fun x hx => List.all_eq_true.mp q.2 x hx⟩
theorem excC_of {D : Addr} (c : excB K D = true) : L2.ExcC K D := by
  unfold excB at c
  simp only [Bool.and_eq_true, decide_eq_true_eq] at c
  obtain ⟨c1, c2, c3, c4, c5, c6, c7, c8⟩ := c
  exact ⟨He.eqO_ok c1, He.eqO_ok c2, c3, c4, He.eqO_ok c5, He.eqO_ok c6, c7, c8⟩
theorem txt_of (X : K.In h) (G : h.Ns mainGlobals mg) (c : He.SaysX fa fn [] tf ex w h K) : Txt K mg (He.ga K) where
  m_len := He.free_ok X G (c.t.d.fact 40 (f := .free "len") rfl)
  m_range := He.free_ok X G (c.t.d.fact 41 (f := .free "range") rfl)
  m_isinstance := He.free_ok X G (c.t.d.fact 42 (f := .free "isinstance") rfl)
  m_sum := He.free_ok X G (c.t.d.fact 43 (f := .free "sum") rfl)
  m_all := He.free_ok X G (c.t.d.fact 44 (f := .free "all") rfl)
  m_abs := He.free_ok X G (c.t.d.fact 45 (f := .free "abs") rfl)
  m_max := He.free_ok X G (c.t.d.fact 46 (f := .free "max") rfl)
  m_min := He.free_ok X G (c.t.d.fact 47 (f := .free "min") rfl)
  m_int := He.free_ok X G (c.t.d.fact 48 (f := .free "int") rfl)
  m_list := He.free_ok X G (c.t.d.fact 49 (f := .free "list") rfl)
  m_tuple := He.free_ok X G (c.t.d.fact 50 (f := .free "tuple") rfl)
  m_bool := He.free_ok X G (c.t.d.fact 51 (f := .free "bool") rfl)
  i_MOST_STEP := He.int_ok X G (c.t.d.fact 52 (f := .int "MOST_STEP" (11)) rfl)
  i_MOST_STEPS := He.int_ok X G (c.t.d.fact 53 (f := .int "MOST_STEPS" (5)) rfl)
  i_LEAST_RING := He.int_ok X G (c.t.d.fact 54 (f := .int "LEAST_RING" (24)) rfl)
  i_MOST_RING := He.int_ok X G (c.t.d.fact 55 (f := .int "MOST_RING" (1000000000000000000000000000000)) rfl)
  g_WindError := He.glo_ok X G (c.t.d.fact 26 (f := .glo "WindError") rfl)
  g_InvalidScript := He.glo_ok X G (c.t.d.fact 27 (f := .glo "InvalidScript") rfl)
  g_InvalidRing := He.glo_ok X G (c.t.d.fact 28 (f := .glo "InvalidRing") rfl)
  g_InvalidPeg := He.glo_ok X G (c.t.d.fact 29 (f := .glo "InvalidPeg") rfl)
  g_InvalidIndex := He.glo_ok X G (c.t.d.fact 30 (f := .glo "InvalidIndex") rfl)
  g_InvalidWord := He.glo_ok X G (c.t.d.fact 31 (f := .glo "InvalidWord") rfl)
  g_InvalidLength := He.glo_ok X G (c.t.d.fact 32 (f := .glo "InvalidLength") rfl)
  g_InvalidSeen := He.glo_ok X G (c.t.d.fact 33 (f := .glo "InvalidSeen") rfl)
  g_InvalidNumber := He.glo_ok X G (c.t.d.fact 34 (f := .glo "InvalidNumber") rfl)
  g_InvalidText := He.glo_ok X G (c.t.d.fact 35 (f := .glo "InvalidText") rfl)
  g_AllLaid := He.glo_ok X G (c.t.d.fact 36 (f := .glo "AllLaid") rfl)
  g_NothingToUndo := He.glo_ok X G (c.t.d.fact 37 (f := .glo "NothingToUndo") rfl)
  g_total := He.glo_ok X G (c.t.d.fact 8 (f := .glo "total") rfl)
  g_divisors := He.glo_ok X G (c.t.d.fact 9 (f := .glo "divisors") rfl)
  g_divisor := He.glo_ok X G (c.t.d.fact 10 (f := .glo "divisor") rfl)
  x_InvalidScript := (He.exc_ok (c.t.d.fact 38 (f := .exc "InvalidScript") rfl)).1
  k_InvalidScript := (He.exc_ok (c.t.d.fact 38 (f := .exc "InvalidScript") rfl)).2.1
  b_InvalidScript := (He.exc_ok (c.t.d.fact 38 (f := .exc "InvalidScript") rfl)).2.2.1
  t_InvalidScript := (He.exc_ok (c.t.d.fact 38 (f := .exc "InvalidScript") rfl)).2.2.2
  x_InvalidRing := (He.exc_ok (c.t.d.fact 39 (f := .exc "InvalidRing") rfl)).1
  k_InvalidRing := (He.exc_ok (c.t.d.fact 39 (f := .exc "InvalidRing") rfl)).2.1
  b_InvalidRing := (He.exc_ok (c.t.d.fact 39 (f := .exc "InvalidRing") rfl)).2.2.1
  t_InvalidRing := (He.exc_ok (c.t.d.fact 39 (f := .exc "InvalidRing") rfl)).2.2.2
  ec := fun C ⟨y, hy, e⟩ => by
    rw [e]
    exact excC_of ((ex_ok c.more).1 y hy).1
  kit := fun C ⟨y, hy, e⟩ x hx => by
    rw [e]
    have q := ((ex_ok c.more).1 y hy).2 x hx
    unfold pairB at q
    rw [Bool.and_eq_true, decide_eq_true_eq] at q
    exact q.1
theorem names_of (c : He.SaysX fa fn [] tf ex w h K) : Names K (He.ga K) where
  inj := fun x hx y hy e => by
    have q := ((ex_ok c.more).1 x hx).2 y hy
    unfold pairB at q
    rw [Bool.and_eq_true, Bool.or_eq_true, decide_eq_true_eq, decide_eq_true_eq, Bool.not_eq_true', decide_eq_false_iff_not] at q
    exact q.2.resolve_left fun z => z e
  exm := fun y hy => by
    simp only [errN, List.mem_cons, List.not_mem_nil, or_false] at hy
    rcases hy with e | e | e | e | e | e | e | e | e | e | e <;> subst e
    · exact He.exm_ok (c.t.d.fact 56 (f := .exm "InvalidScript" "WindError" true) rfl)
    · exact He.exm_ok (c.t.d.fact 57 (f := .exm "InvalidRing" "WindError" true) rfl)
    · exact He.exm_ok (c.t.d.fact 58 (f := .exm "InvalidPeg" "WindError" true) rfl)
    · exact He.exm_ok (c.t.d.fact 59 (f := .exm "InvalidIndex" "WindError" true) rfl)
    · exact He.exm_ok (c.t.d.fact 60 (f := .exm "InvalidWord" "WindError" true) rfl)
    · exact He.exm_ok (c.t.d.fact 61 (f := .exm "InvalidLength" "WindError" true) rfl)
    · exact He.exm_ok (c.t.d.fact 62 (f := .exm "InvalidSeen" "WindError" true) rfl)
    · exact He.exm_ok (c.t.d.fact 63 (f := .exm "InvalidNumber" "WindError" true) rfl)
    · exact He.exm_ok (c.t.d.fact 64 (f := .exm "InvalidText" "WindError" true) rfl)
    · exact He.exm_ok (c.t.d.fact 65 (f := .exm "AllLaid" "WindError" true) rfl)
    · exact He.exm_ok (c.t.d.fact 66 (f := .exm "NothingToUndo" "WindError" true) rfl)
theorem phi_of (c : He.SaysX fa fn [] tf ex w h K) : PhiOk (He.ga K) (Phi (He.ga K)) where
  t := if_pos rfl
  ds := (if_neg (ex_ok c.more).2.1).trans (if_pos rfl)
  d := if_pos rfl
abbrev TT (K : PySem.W.Frag) : Tbl := [(He.tabOf K (He.codeOf K ("_law_by_one", none)), ("_law_by_one" : Str) ++ ".<locals>." ++ "<lambda>"), (He.tabOf K (He.codeOf K ("_law_by_two", none)), ("_law_by_two" : Str) ++ ".<locals>." ++ "<lambda>")]
theorem facts {f : Addr} {l : PySem.W.OpenLaw} (X : K.In h) (G : h.Ns mainGlobals mg) (hfa : mg ("law" : Str) = some (.ref f)) (c : He.SaysX fa fn [] tf ex w h K) : LawAtS l w K (L2N.CX l.prog w) 12 63 "script" mg f h := by
  have TX := txt_of X G c
  have hN := names_of c
  have hP := phi_of c
  have hx := ex_ok c.more
  obtain ⟨fd_is_within, F0_is_within⟩ := c.t.d.def_ 0 (d := d_is_within) rfl
  have F_is_within : L2.Fun K "is_within" "is_within" s_is_within (He.ga K "is_within") fd_is_within := fun_of F0_is_within
  have g_is_within := He.glo_ok X G (c.t.d.fact 0 (f := .glo "is_within") rfl)
  obtain ⟨fd_is_step, F0_is_step⟩ := c.t.d.def_ 1 (d := d_is_step) rfl
  have F_is_step : L2.Fun K "is_step" "is_step" s_is_step (He.ga K "is_step") fd_is_step := fun_of F0_is_step
  have g_is_step := He.glo_ok X G (c.t.d.fact 1 (f := .glo "is_step") rfl)
  obtain ⟨fd_is_right_script, F0_is_right_script⟩ := c.t.d.def_ 2 (d := d_is_right_script) rfl
  have F_is_right_script : L2.Fun K "is_right_script" "is_right_script" s_is_right_script (He.ga K "is_right_script") fd_is_right_script := fun_of F0_is_right_script
  have g_is_right_script := He.glo_ok X G (c.t.d.fact 2 (f := .glo "is_right_script") rfl)
  obtain ⟨fd_need_script, F0_need_script⟩ := c.t.d.def_ 3 (d := d_need_script) rfl
  have F_need_script : L2.Fun K "need_script" "need_script" s_need_script (He.ga K "need_script") fd_need_script := fun_of F0_need_script
  have g_need_script := He.glo_ok X G (c.t.d.fact 3 (f := .glo "need_script") rfl)
  obtain ⟨fd_need_ring, F0_need_ring⟩ := c.t.d.def_ 4 (d := d_need_ring) rfl
  have F_need_ring : L2.Fun K "need_ring" "need_ring" s_need_ring (He.ga K "need_ring") fd_need_ring := fun_of F0_need_ring
  have g_need_ring := He.glo_ok X G (c.t.d.fact 4 (f := .glo "need_ring") rfl)
  obtain ⟨fd_shared, F0_shared⟩ := c.t.d.def_ 5 (d := d_shared) rfl
  have F_shared : L2.Fun K "shared" "shared" s_shared (He.ga K "shared") fd_shared := fun_of F0_shared
  have g_shared := He.glo_ok X G (c.t.d.fact 5 (f := .glo "shared") rfl)
  obtain ⟨fd_divisors_of, F0_divisors_of⟩ := c.t.d.def_ 6 (d := d_divisors_of) rfl
  have F_divisors_of : L2.Fun K "divisors_of" "divisors_of" s_divisors_of (He.ga K "divisors_of") fd_divisors_of := fun_of F0_divisors_of
  have g_divisors_of := He.glo_ok X G (c.t.d.fact 6 (f := .glo "divisors_of") rfl)
  obtain ⟨fd_is_script, F0_is_script⟩ := c.t.d.def_ 7 (d := d_is_script) rfl
  have F_is_script : L2.Fun K "is_script" "is_script" s_is_script (He.ga K "is_script") fd_is_script := fun_of F0_is_script
  have g_is_script := He.glo_ok X G (c.t.d.fact 7 (f := .glo "is_script") rfl)
  obtain ⟨fd_total, F0_total⟩ := c.t.d.def_ 8 (d := d_total) rfl
  have F_total : L2.Fun K "total" "total" s_total (He.ga K "total") fd_total := fun_of F0_total
  have g_total := He.glo_ok X G (c.t.d.fact 8 (f := .glo "total") rfl)
  obtain ⟨fd_divisors, F0_divisors⟩ := c.t.d.def_ 9 (d := d_divisors) rfl
  have F_divisors : L2.Fun K "divisors" "divisors" s_divisors (He.ga K "divisors") fd_divisors := fun_of F0_divisors
  have g_divisors := He.glo_ok X G (c.t.d.fact 9 (f := .glo "divisors") rfl)
  obtain ⟨fd_divisor, F0_divisor⟩ := c.t.d.def_ 10 (d := d_divisor) rfl
  have F_divisor : L2.Fun K "divisor" "divisor" s_divisor (He.ga K "divisor") fd_divisor := fun_of F0_divisor
  have g_divisor := He.glo_ok X G (c.t.d.fact 10 (f := .glo "divisor") rfl)
  obtain ⟨fd__law_source, F0__law_source⟩ := c.t.d.def_ 11 (d := d__law_source) rfl
  have F__law_source : L2.Fun K "_law_source" "_law_source" s__law_source (He.ga K "_law_source") fd__law_source := fun_of F0__law_source
  have g__law_source := He.glo_ok X G (c.t.d.fact 11 (f := .glo "_law_source") rfl)
  obtain ⟨fd__law_pick, F0__law_pick⟩ := c.t.d.def_ 12 (d := d__law_pick) rfl
  have F__law_pick : L2.Fun K "_law_pick" "_law_pick" s__law_pick (He.ga K "_law_pick") fd__law_pick := fun_of F0__law_pick
  have g__law_pick := He.glo_ok X G (c.t.d.fact 12 (f := .glo "_law_pick") rfl)
  obtain ⟨fd__law_chosen, F0__law_chosen⟩ := c.t.d.def_ 13 (d := d__law_chosen) rfl
  have F__law_chosen : L2.Fun K "_law_chosen" "_law_chosen" s__law_chosen (He.ga K "_law_chosen") fd__law_chosen := fun_of F0__law_chosen
  have g__law_chosen := He.glo_ok X G (c.t.d.fact 13 (f := .glo "_law_chosen") rfl)
  obtain ⟨fd__law_is_bool, F0__law_is_bool⟩ := c.t.d.def_ 14 (d := d__law_is_bool) rfl
  have F__law_is_bool : L2.Fun K "_law_is_bool" "_law_is_bool" s__law_is_bool (He.ga K "_law_is_bool") fd__law_is_bool := fun_of F0__law_is_bool
  have g__law_is_bool := He.glo_ok X G (c.t.d.fact 14 (f := .glo "_law_is_bool") rfl)
  obtain ⟨fd__law_wide, F0__law_wide⟩ := c.t.d.def_ 15 (d := d__law_wide) rfl
  have F__law_wide : L2.Fun K "_law_wide" "_law_wide" s__law_wide (He.ga K "_law_wide") fd__law_wide := fun_of F0__law_wide
  have g__law_wide := He.glo_ok X G (c.t.d.fact 15 (f := .glo "_law_wide") rfl)
  obtain ⟨fd__law_any_value, F0__law_any_value⟩ := c.t.d.def_ 16 (d := d__law_any_value) rfl
  have F__law_any_value : L2.Fun K "_law_any_value" "_law_any_value" s__law_any_value (He.ga K "_law_any_value") fd__law_any_value := fun_of F0__law_any_value
  have g__law_any_value := He.glo_ok X G (c.t.d.fact 16 (f := .glo "_law_any_value") rfl)
  obtain ⟨fd__law_variant, F0__law_variant⟩ := c.t.d.def_ 17 (d := d__law_variant) rfl
  have F__law_variant : L2.Fun K "_law_variant" "_law_variant" s__law_variant (He.ga K "_law_variant") fd__law_variant := fun_of F0__law_variant
  have g__law_variant := He.glo_ok X G (c.t.d.fact 17 (f := .glo "_law_variant") rfl)
  obtain ⟨fd__law_whole, F0__law_whole⟩ := c.t.d.def_ 18 (d := d__law_whole) rfl
  have F__law_whole : L2.Fun K "_law_whole" "_law_whole" s__law_whole (He.ga K "_law_whole") fd__law_whole := fun_of F0__law_whole
  have g__law_whole := He.glo_ok X G (c.t.d.fact 18 (f := .glo "_law_whole") rfl)
  obtain ⟨fd__law_error, F0__law_error⟩ := c.t.d.def_ 19 (d := d__law_error) rfl
  have F__law_error : L2.Fun K "_law_error" "_law_error" s__law_error (He.ga K "_law_error") fd__law_error := fun_of F0__law_error
  have g__law_error := He.glo_ok X G (c.t.d.fact 19 (f := .glo "_law_error") rfl)
  obtain ⟨fd__law_refused, F0__law_refused⟩ := c.t.d.def_ 20 (d := d__law_refused) rfl
  have F__law_refused : L2.Fun K "_law_refused" "_law_refused" s__law_refused (He.ga K "_law_refused") fd__law_refused := fun_of F0__law_refused
  have g__law_refused := He.glo_ok X G (c.t.d.fact 20 (f := .glo "_law_refused") rfl)
  obtain ⟨fd__law_by_one, F0__law_by_one⟩ := c.t.d.def_ 21 (d := d__law_by_one) rfl
  have F__law_by_one : L2.Fun K "_law_by_one" "_law_by_one" s__law_by_one (He.ga K "_law_by_one") fd__law_by_one := fun_of F0__law_by_one
  have g__law_by_one := He.glo_ok X G (c.t.d.fact 21 (f := .glo "_law_by_one") rfl)
  obtain ⟨fd__law_by_two, F0__law_by_two⟩ := c.t.d.def_ 22 (d := d__law_by_two) rfl
  have F__law_by_two : L2.Fun K "_law_by_two" "_law_by_two" s__law_by_two (He.ga K "_law_by_two") fd__law_by_two := fun_of F0__law_by_two
  have g__law_by_two := He.glo_ok X G (c.t.d.fact 22 (f := .glo "_law_by_two") rfl)
  obtain ⟨fd__law_drawn_steps, F0__law_drawn_steps⟩ := c.t.d.def_ 23 (d := d__law_drawn_steps) rfl
  have F__law_drawn_steps : L2.Fun K "_law_drawn_steps" "_law_drawn_steps" s__law_drawn_steps (He.ga K "_law_drawn_steps") fd__law_drawn_steps := fun_of F0__law_drawn_steps
  have g__law_drawn_steps := He.glo_ok X G (c.t.d.fact 23 (f := .glo "_law_drawn_steps") rfl)
  obtain ⟨fd__law_good, F0__law_good⟩ := c.t.d.def_ 24 (d := d__law_good) rfl
  have F__law_good : L2.Fun K "_law_good" "_law_good" s__law_good (He.ga K "_law_good") fd__law_good := fun_of F0__law_good
  have g__law_good := He.glo_ok X G (c.t.d.fact 24 (f := .glo "_law_good") rfl)
  obtain ⟨fd_law, F0_law⟩ := c.t.d.def_ 25 (d := d_law) rfl
  have F_law : L2.Fun K "law" "law" s_law (He.ga K "law") fd_law := fun_of F0_law
  have e := hfa.symm.trans (He.glo_ok X G (c.t.d.fact 25 (f := .glo "law") rfl))
  cases e
  refine ⟨fd_law, tf.map (He.cT K), spLaw K (TT K) 63, fun p hp => ?_, fun p hp => ?_, fun p hp => ?_, fun s u => ?_, fun H a ns hl hb hH hS => ⟨a, ns, rfl, hS, hl, hb, fun p hp => ?_, fun _ => rfl⟩, fun base XB GB TB => ?_⟩
  · obtain ⟨q, hq, e⟩ := List.mem_map.mp hp
    rw [← e]
    exact c.empty q hq
  · obtain ⟨q, hq, e⟩ := List.mem_map.mp hp
    rw [← e]
    exact c.out q hq
  · obtain ⟨q, hq, e⟩ := List.mem_map.mp hp
    rw [← e]
    exact PySem.W.codeHd_of_K X (c.hd q hq)
  · exact (FunD.bindsA (ps := ["script"]) F0_law fun _ _ _ _ _ _ us hl => match us, hl with | [_], _ => rfl) s [u] rfl
  · rcases List.mem_cons.mp hp with e | hp
    · rw [e]
      exact LamX.TabS.nil (hH (He.cT K ("_law_by_one", none)) (List.mem_map.mpr ⟨_, by simp [tf], rfl⟩))
    · rw [List.mem_singleton.mp hp]
      exact LamX.TabS.nil (hH (He.cT K ("_law_by_two", none)) (List.mem_map.mpr ⟨_, by simp [tf], rfl⟩))
  · have T1 : Tb K base mg (TT K) "_law_by_one" := ⟨TB (He.cT K ("_law_by_one", none)) (List.mem_map.mpr ⟨_, by simp [tf], rfl⟩), List.mem_cons_self, fun p hp e => by
      rcases List.mem_cons.mp hp with z | hp
      · rw [z]
      · rw [List.mem_singleton.mp hp] at e
        exact absurd e.symm hx.2.2⟩
    have T2 : Tb K base mg (TT K) "_law_by_two" := ⟨TB (He.cT K ("_law_by_two", none)) (List.mem_map.mpr ⟨_, by simp [tf], rfl⟩), List.mem_cons_of_mem _ List.mem_cons_self, fun p hp e => by
      rcases List.mem_cons.mp hp with z | hp
      · rw [z] at e
        exact absurd e hx.2.2
      · rw [List.mem_singleton.mp hp]⟩
    have c_is_within := ok_is_within (P := l.prog) (w := w) (base := base) (T := TT K) (A := He.ga K) F_is_within TX g_is_within 
    have c_is_step := ok_is_step (P := l.prog) (w := w) (base := base) (T := TT K) (A := He.ga K) F_is_step TX g_is_step c_is_within
    have c_is_right_script := ok_is_right_script (P := l.prog) (w := w) (base := base) (T := TT K) (A := He.ga K) F_is_right_script TX g_is_right_script c_is_step
    have c_need_script := ok_need_script (P := l.prog) (w := w) (base := base) (T := TT K) (A := He.ga K) F_need_script TX g_need_script c_is_right_script
    have c_need_ring := ok_need_ring (P := l.prog) (w := w) (base := base) (T := TT K) (A := He.ga K) F_need_ring TX g_need_ring c_is_within
    have c_shared := ok_shared (P := l.prog) (w := w) (base := base) (T := TT K) (A := He.ga K) F_shared TX g_shared 
    have c_divisors_of := ok_divisors_of (P := l.prog) (w := w) (base := base) (T := TT K) (A := He.ga K) F_divisors_of TX g_divisors_of 
    have c_is_script := ok_is_script (P := l.prog) (w := w) (base := base) (T := TT K) (A := He.ga K) F_is_script TX g_is_script c_is_right_script
    have c_total := ok_total (P := l.prog) (w := w) (base := base) (T := TT K) (A := He.ga K) F_total TX g_total c_need_script
    have c_divisors := ok_divisors (P := l.prog) (w := w) (base := base) (T := TT K) (A := He.ga K) F_divisors TX g_divisors c_need_script c_divisors_of
    have c_divisor := ok_divisor (P := l.prog) (w := w) (base := base) (T := TT K) (A := He.ga K) F_divisor TX g_divisor c_need_script c_need_ring c_shared
    have cv : ∀ f n φ, Phi (He.ga K) f n = some φ → ClA l.prog w K mg base (TT K) 5 f n φ := fun f n φ hφ => by
      match n, hφ with
      | 1, hφ =>
        have hφ : (if f = He.ga K "total" then some (f_total (He.ga K)) else if f = He.ga K "divisors" then some (fD (f_divisors (He.ga K))) else none) = some φ := hφ
        by_cases e1 : f = He.ga K "total"
        · rw [if_pos e1] at hφ
          cases hφ
          rw [e1]
          exact c_total.toA g_total
        · rw [if_neg e1] at hφ
          by_cases e2 : f = He.ga K "divisors"
          · rw [if_pos e2] at hφ
            cases hφ
            rw [e2]
            exact (c_divisors.imp spN_D).toA g_divisors
          · rw [if_neg e2] at hφ
            cases hφ
      | 2, hφ =>
        have hφ : (if f = He.ga K "divisor" then some (f_divisor (He.ga K)) else none) = some φ := hφ
        by_cases e1 : f = He.ga K "divisor"
        · rw [if_pos e1] at hφ
          cases hφ
          rw [e1]
          exact c_divisor.toA g_divisor
        · rw [if_neg e1] at hφ
          cases hφ
    have c__law_source := ok__law_source (P := l.prog) (w := w) (base := base) (T := TT K) (A := He.ga K) F__law_source TX g__law_source 
    have c__law_pick := ok__law_pick (P := l.prog) (w := w) (base := base) (T := TT K) (A := He.ga K) F__law_pick TX g__law_pick 
    have c__law_chosen := ok__law_chosen (P := l.prog) (w := w) (base := base) (T := TT K) (A := He.ga K) F__law_chosen TX g__law_chosen c__law_pick
    have c__law_is_bool := ok__law_is_bool (P := l.prog) (w := w) (base := base) (T := TT K) (A := He.ga K) F__law_is_bool TX g__law_is_bool 
    have c__law_wide := ok__law_wide (P := l.prog) (w := w) (base := base) (T := TT K) (A := He.ga K) F__law_wide TX g__law_wide 
    have c__law_any_value := ok__law_any_value (P := l.prog) (w := w) (base := base) (T := TT K) (A := He.ga K) F__law_any_value TX g__law_any_value c__law_pick c__law_chosen 4
    have c__law_variant := ok__law_variant (P := l.prog) (w := w) (base := base) (T := TT K) (A := He.ga K) F__law_variant TX g__law_variant c__law_pick c__law_any_value c__law_chosen 5
    have c__law_whole := ok__law_whole (P := l.prog) (w := w) (base := base) (T := TT K) (A := He.ga K) F__law_whole TX g__law_whole 
    have c__law_error := ok__law_error (P := l.prog) (w := w) (base := base) (T := TT K) (A := He.ga K) F__law_error TX g__law_error 
    have c__law_by_one := ok__law_by_one (P := l.prog) (w := w) (base := base) (T := TT K) (A := He.ga K) (Φ := Phi (He.ga K)) F__law_by_one TX g__law_by_one F__law_refused g__law_refused c__law_error T1 cv
    have c__law_by_two := ok__law_by_two (P := l.prog) (w := w) (base := base) (T := TT K) (A := He.ga K) (Φ := Phi (He.ga K)) F__law_by_two TX g__law_by_two F__law_refused g__law_refused c__law_error T2 cv
    have c__law_drawn_steps := ok__law_drawn_steps (P := l.prog) (w := w) (base := base) (T := TT K) (A := He.ga K) F__law_drawn_steps TX g__law_drawn_steps c__law_pick c__law_chosen
    have c__law_good := ok__law_good (P := l.prog) (w := w) (base := base) (T := TT K) (A := He.ga K) F__law_good TX g__law_good c__law_wide c__law_whole
    exact ok_law (T := TT K) (A := He.ga K) (Φ := Phi (He.ga K)) F_law TX (law_D hN hP) c__law_source c__law_drawn_steps c__law_variant c_divisors c__law_any_value c__law_is_bool c__law_pick c_divisor c_is_script c__law_good c_total c__law_by_one c__law_by_two
end
end Rw
open PySem PySem.W PySem.Calls PyProof.Rows
theorem PySem.Challenge.cw_ringwound_k01_scripts_and_their_divisors_holds : PySem.Challenge.rw_ringwound_k01_scripts_and_their_divisors.Holds := by
  w_on; o_law
  refine HandSHeadRun.head_any (r := OpenLaw.row PySem.Challenge.rw_ringwound_k01_scripts_and_their_divisors) (q := view (OpenLaw.row PySem.Challenge.rw_ringwound_k01_scripts_and_their_divisors).prog [44]) (H := Rw.hk) (ob := Rw.ob) (M := 4000) (loose := Rw.loose) (d := HandSHeadRun.topDef (OpenLaw.row PySem.Challenge.rw_ringwound_k01_scripts_and_their_divisors).prog 44) (kwd := []) Rw.ob_eq
    (by kernel_rfl) (fun s => by kernel_rfl) Rw.run (by kernel_rfl) (by kernel_rfl) (by kernel_rfl) (by rfl) (by first | assumption | decide +kernel) (by decide +kernel) ⟨rfl, rfl, rfl, rfl, rfl, by decide +kernel⟩ ?hw ?hc
  case hw => w_witness2
  case hc =>
    refine LamX.walk_ofTsE (l := PySem.Challenge.rw_ringwound_k01_scripts_and_their_divisors) (n := 63) (k := 12) (x := "script") (CX := fun w => L2N.CX (PySem.Challenge.rw_ringwound_k01_scripts_and_their_divisors).prog w) rfl (by decide) (by kernel_rfl) ⟨rfl, by decide, by decide⟩ ?F (fun w H s e s' z => by
      obtain ⟨_, _, _, _, _, _, _, _, _, _, _, _, q⟩ := z
      exact q)
    intro w mg fa h Y G hmg0
    obtain ⟨K, KX, c⟩ := Y
    have hmg : mg ("law" : PySem.Str) = some (.ref fa) := by
      have e : (HandSHeadRun.topDef (OpenLaw.row PySem.Challenge.rw_ringwound_k01_scripts_and_their_divisors).prog 44).name = ("law" : PySem.Str) := by kernel_rfl
      rw [← e]
      exact hmg0
    exact ⟨K, KX, Rw.facts KX G hmg c⟩

