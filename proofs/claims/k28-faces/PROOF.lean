import PyProof.Rows.All
import Wide.All
import OpenK.AllK
import Wide.FinOn
import HandS.ForMost
import HandS.ForExc
import HandS.CallSlots
import HandS.EndBits
import HandS.Wide
import HandS.Style
import HandS.TupLe
import KE.KDictKeyed
import HandS.TupAny
import HandS.TryOnly
import HandS.IsInst
import HandS.Deep
import HandS.WideBits
import HandS.ExcIs
import HandS.Rev
import HandS.Zip
import KE.DataMinMax
import KE.SortData
import HandS.TupSets
import HandS.TupMul
import HandS.Defaults
import KE.RegKIsAll
import KE.RegKTryMore
import HandS.Iter
import PyProof.LongRange
import HandS.SetFor
import HandS.TupLen
import KE.KDictSum
import HandS.Conv
import HandS.ExcOwn
import HandS.ExcValue
import PySem.Challenge.RW_stakefield_k28_faces
set_option Elab.async false
set_option linter.all false
set_option autoImplicit false
set_option maxRecDepth 100000
set_option exponentiation.threshold 3000000
set_option maxHeartbeats 1000000
/-! The data layer: what an expression or a statement does, told over data (Dat) and slots (Sl) alone. -/
namespace DL
open PySem PySem.Spec PyProof.Rows L2
variable {K : PySem.W.Frag}

inductive Dat where
  | non | bl (b : Bool) | int (i : Int) | str (x : Str) | tup (ds : List Dat) | lst (ds : List Dat) | dic (kvs : List (Key × V))

mutual
def RdD (K : PySem.W.Frag) (G : Hp) : Dat → V → Prop
  | .non, v => v = .non
  | .bl b, v => v = .bl b
  | .int i, v => v = .int i
  | .str x, v => v = .str x
  | .tup ds, v => ∃ a vs, v = .ref a ∧ G a = some (.tup vs) ∧ RdL K G ds vs
  | .lst ds, v => ∃ a vs, v = .ref a ∧ SqL K G a vs ∧ RdL K G ds vs
  | .dic kvs, v => ∃ a, v = .ref a ∧ G a = some (.dK kvs)
def RdL (K : PySem.W.Frag) (G : Hp) : List Dat → List V → Prop
  | [], vs => vs = []
  | d :: ds, vs => ∃ v r, vs = v :: r ∧ RdD K G d v ∧ RdL K G ds r
end

theorem rd_mono {G G' : Hp} {a : Addr} {vs : List V} (s : Same G G') (h : SqL K G a vs) : SqL K G' a vs := s.seq h
theorem sq_of {G : Hp} {a : Addr} {vs : List V} (h : G a = some (.lst vs)) : SqL K G a vs := .inl (.inl h)
mutual
theorem RdD.mono {G G' : Hp} (s : Same G G') : ∀ (d : Dat) (v : V), RdD K G d v → RdD K G' d v
  | .non, _, h => h
  | .bl _, _, h => h
  | .int _, _, h => h
  | .str _, _, h => h
  | .tup ds, v, h => by
    unfold RdD at h ⊢
    obtain ⟨a, vs, e, g, r⟩ := h
    exact ⟨a, vs, e, s _ _ g, RdL.mono s ds vs r⟩
  | .lst ds, v, h => by
    unfold RdD at h ⊢
    obtain ⟨a, vs, e, g, r⟩ := h
    exact ⟨a, vs, e, rd_mono s g, RdL.mono s ds vs r⟩
  | .dic kvs, v, h => by
    unfold RdD at h ⊢
    obtain ⟨a, e, g⟩ := h
    exact ⟨a, e, s _ _ g⟩
theorem RdL.mono {G G' : Hp} (s : Same G G') : ∀ (ds : List Dat) (vs : List V), RdL K G ds vs → RdL K G' ds vs
  | [], _, h => h
  | d :: ds, vs, h => by
    unfold RdL at h ⊢
    obtain ⟨v, r, e, h1, h2⟩ := h
    exact ⟨v, r, e, RdD.mono s d v h1, RdL.mono s ds r h2⟩
end
theorem RdL.nil {G : Hp} : RdL K G [] [] := by unfold RdL; rfl
theorem RdL.cons {G : Hp} {d : Dat} {v : V} {ds : List Dat} {vs : List V} (h : RdD K G d v) (t : RdL K G ds vs) : RdL K G (d :: ds) (v :: vs) := by
  unfold RdL; exact ⟨v, vs, rfl, h, t⟩
theorem RdL.len {G : Hp} : ∀ {ds : List Dat} {vs : List V}, RdL K G ds vs → ds.length = vs.length
  | [], vs, h => by
    unfold RdL at h; rw [h]; rfl
  | d :: ds, vs, h => by
    unfold RdL at h
    obtain ⟨v, r, e, _, h2⟩ := h
    rw [e, List.length_cons, List.length_cons, RdL.len h2]
theorem RdL.get {G : Hp} : ∀ {ds : List Dat} {vs : List V} {i : Nat} {d : Dat}, RdL K G ds vs → ds[i]? = some d → ∃ v, vs[i]? = some v ∧ RdD K G d v
  | [], _, _, _, _, e => by simp at e
  | d :: ds, vs, i, x, h, e => by
    unfold RdL at h
    obtain ⟨v, r, rfl, h1, h2⟩ := h
    cases i with
    | zero => simp at e; subst e; exact ⟨v, rfl, h1⟩
    | succ i => simpa using RdL.get h2 (by simpa using e)
theorem RdL.getV {G : Hp} : ∀ {ds : List Dat} {vs : List V} {i : Nat} {v : V}, RdL K G ds vs → vs[i]? = some v → ∃ d, ds[i]? = some d ∧ RdD K G d v
  | [], vs, _, _, h, e => by unfold RdL at h; subst h; simp at e
  | d :: ds, vs, i, x, h, e => by
    unfold RdL at h
    obtain ⟨v, r, rfl, h1, h2⟩ := h
    cases i with
    | zero => simp at e; subst e; exact ⟨d, rfl, h1⟩
    | succ i => simpa using RdL.getV h2 (by simpa using e)
theorem RdL.append {G : Hp} : ∀ {ds es : List Dat} {vs ws : List V}, RdL K G ds vs → RdL K G es ws → RdL K G (ds ++ es) (vs ++ ws)
  | [], _, vs, _, h, k => by unfold RdL at h; subst h; exact k
  | d :: ds, es, vs, ws, h, k => by
    unfold RdL at h
    obtain ⟨v, r, rfl, h1, h2⟩ := h
    exact RdL.cons h1 (RdL.append h2 k)
theorem RdL.take {G : Hp} : ∀ {ds : List Dat} {vs : List V} (n : Nat), RdL K G ds vs → RdL K G (ds.take n) (vs.take n)
  | [], vs, n, h => by unfold RdL at h; subst h; simpa using RdL.nil
  | d :: ds, vs, 0, h => by simpa using RdL.nil
  | d :: ds, vs, n + 1, h => by
    unfold RdL at h
    obtain ⟨v, r, rfl, h1, h2⟩ := h
    simpa using RdL.cons h1 (RdL.take n h2)
theorem RdL.drop {G : Hp} : ∀ {ds : List Dat} {vs : List V} (n : Nat), RdL K G ds vs → RdL K G (ds.drop n) (vs.drop n)
  | [], vs, n, h => by unfold RdL at h; subst h; simpa using RdL.nil
  | d :: ds, vs, 0, h => by simpa using h
  | d :: ds, vs, n + 1, h => by
    unfold RdL at h
    obtain ⟨v, r, rfl, h1, h2⟩ := h
    simpa using RdL.drop n h2
theorem RdL.dropLast {G : Hp} {ds : List Dat} {vs : List V} (h : RdL K G ds vs) : RdL K G ds.dropLast vs.dropLast := by
  rw [List.dropLast_eq_take, List.dropLast_eq_take, h.len]
  exact h.take _
theorem RdL.reverse {G : Hp} : ∀ {ds : List Dat} {vs : List V}, RdL K G ds vs → RdL K G ds.reverse vs.reverse
  | [], vs, h => by unfold RdL at h; subst h; exact RdL.nil
  | d :: ds, vs, h => by
    unfold RdL at h
    obtain ⟨v, r, rfl, h1, h2⟩ := h
    rw [List.reverse_cons, List.reverse_cons]
    exact RdL.append (RdL.reverse h2) (RdL.cons h1 RdL.nil)
theorem RdL.set {G : Hp} : ∀ {ds : List Dat} {vs : List V} (n : Nat) {d : Dat} {v : V}, RdL K G ds vs → RdD K G d v → RdL K G (ds.set n d) (vs.set n v)
  | [], vs, n, _, _, h, _ => by unfold RdL at h; subst h; simpa using RdL.nil
  | d :: ds, vs, n, x, w, h, k => by
    unfold RdL at h
    obtain ⟨v, r, rfl, h1, h2⟩ := h
    cases n with
    | zero => simpa using RdL.cons k h2
    | succ n => simpa using RdL.cons h1 (RdL.set n h2 k)
theorem RdL.ints {G : Hp} : ∀ (ns : List Int), RdL K G (ns.map Dat.int) (ns.map V.int)
  | [] => RdL.nil
  | n :: ns => RdL.cons (by unfold RdD; rfl) (RdL.ints ns)

/-- the tracked heap and the part that stays grow; what is new there is fresh -/
structure Ext (H G H' G' : Hp) : Prop where
  h : Same H H'
  g : Same G G'
  s : Same G' H'
  f : ∀ a, H a ≠ none → G a = none → G' a = none
theorem Ext.refl {H G : Hp} (s : Same G H) : Ext H G H G := ⟨Same.refl _, Same.refl _, s, fun _ _ h => h⟩
theorem Ext.trans {H G H1 G1 H2 G2 : Hp} (a : Ext H G H1 G1) (b : Ext H1 G1 H2 G2) : Ext H G H2 G2 :=
  ⟨a.h.trans b.h, a.g.trans b.g, b.s, fun x hx hg => b.f x (fun z => hx (a.h.free z)) (a.f x hx hg)⟩
theorem same_upd {H : Hp} {a : Addr} {o : HO} (n : H a = none) : Same H (upd H a o) := fun b u e => by rw [upd_ne (ne_of_none e n)]; exact e
theorem same_upd2 {G H : Hp} {a : Addr} {o : HO} (s : Same G H) (e : H a = some o) : Same (upd G a o) H := fun b u h => by
  by_cases hb : b = a
  · subst hb; rw [upd_same] at h; rw [← h]; exact e
  · rw [upd_ne hb] at h; exact s _ _ h
/-- a new object, put into the part that stays -/
theorem Ext.newG {H G : Hp} {p : Addr} {o : HO} (s : Same G H) (n : H p = none) : Ext H G (upd H p o) (upd G p o) := by
  refine ⟨same_upd n, same_upd (s.free n), fun b u h => ?_, fun a ha hg => ?_⟩
  · by_cases hb : b = p
    · subst hb; rw [upd_same] at h ⊢; exact h
    · rw [upd_ne hb] at h ⊢; exact s _ _ h
  · have : a ≠ p := fun e => ha (by rw [e]; exact n)
    rw [upd_ne this]; exact hg
/-- a new object that is held apart -/
theorem Ext.newH {H G : Hp} {p : Addr} {o : HO} (s : Same G H) (n : H p = none) : Ext H G (upd H p o) G :=
  ⟨same_upd n, Same.refl _, s.trans (same_upd n), fun _ _ h => h⟩
/-- an object that was made since is put into the part that stays -/
theorem Ext.put {H G H' G' : Hp} {p : Addr} {o : HO} (x : Ext H G H' G') (n : H p = none) (e : H' p = some o) (g : G' p = none) : Ext H G H' (upd G' p o) ∧ Same G' (upd G' p o) := by
  refine ⟨⟨x.h, x.g.trans (same_upd g), same_upd2 x.s e, fun a ha hg => ?_⟩, same_upd g⟩
  have : a ≠ p := fun z => ha (by rw [z]; exact n)
  rw [upd_ne this]; exact x.f a ha hg

inductive Sl where
  | un | fz (d : Dat) | ow (ds : List Dat) | br (ds : List Dat) | adr (a : Addr) | dc (a : Addr) (kvs : List (Dat × V))
/-! own dicts: their keys are tuples of ints, and of such tuples -/
mutual
def nkD : Dat → NestedKey
  | .non => .none
  | .bl b => .num (if b = true then 1 else 0)
  | .int i => .num i
  | .str x => .text x
  | .tup ds => .tup (nkL ds)
  | .lst _ => .none
  | .dic _ => .none
def nkL : List Dat → List NestedKey
  | [] => []
  | d :: ds => nkD d :: nkL ds
end
mutual
def kOk : Nat → Dat → Bool
  | _, .int _ => true
  | n + 1, .tup ds => kOkL n ds
  | _, _ => false
def kOkL : Nat → List Dat → Bool
  | _, [] => true
  | n, d :: ds => kOk n d && kOkL n ds
end
/-- the dict at a, its object's entries being es -/
def rawO (a : Addr) (es : Array DictEntry) : HO := .ext fun h => ∃ o ep, h.get? a = some o ∧ o.ExactDict ∧ o.data = .dict es ep
/-- .. its object being o -/
def fixO (a : Addr) (o : Obj) : HO := .ext fun h => h.get? a = some o
def RawAt (a : Addr) (es : Array DictEntry) (ob : HO) : Prop := ob = rawO a es ∨ ∃ (o : Obj) (ep : Nat), ob = fixO a o ∧ o.ExactDict ∧ o.data = .dict es ep
def DcK (K : PySem.W.Frag) (G : Hp) (p : Dat × V) (x : NestedKey × Addr × Value) : Prop := nkD p.1 = x.1 ∧ kOk 6 p.1 = true ∧ RdD K G p.1 (.ref x.2.1) ∧ RelV p.2 x.2.2
def DcR (K : PySem.W.Frag) (G H : Hp) (a : Addr) (kvs : List (Dat × V)) : Prop :=
  ∃ (xs : List (NestedKey × Addr × Value)) (es : Array DictEntry), (∃ ob, H a = some ob ∧ RawAt a es ob) ∧ (∀ w : World, es.toList = xs.map fun x => ⟨x.1.hash w, .ref x.2.1, x.2.2⟩) ∧ Paired (DcK K G) kvs xs ∧ (xs.map (·.1)).Nodup ∧ xs.length ≤ sizeLine ∧ (a == sysModules) = false
/-- what an expression gives: data; a new list; a list that stands (the caller's; one's own) -/
inductive Rv where
  | v (x : Dat) | n (ds : List Dat) | b (ds : List Dat) | o (ds : List Dat)
def Rv.dat : Rv → Dat
  | .v x => x
  | .n ds => .lst ds
  | .b ds => .lst ds
  | .o ds => .lst ds

/-- what may be handed back -/
def retOk : Rv → Bool
  | .o _ => false
  | .b _ => false
  | _ => true
def SlR (K : PySem.W.Frag) (H0 G H : Hp) : Sl → Option (Option V) → Prop
  | .un, _ => True
  | .fz d, o => ∃ v, o = some (some v) ∧ RdD K G d v
  | .ow ds, o => ∃ l vs, o = some (some (.ref l)) ∧ H l = some (.lst vs) ∧ RdL K G ds vs ∧ G l = none ∧ H0 l = none
  | .br ds, o => ∃ l vs, o = some (some (.ref l)) ∧ SqL K H0 l vs ∧ RdL K G ds vs
  | .adr a, o => o = some (some (.ref a))
  | .dc a kvs, o => o = some (some (.ref a)) ∧ DcR K G H a kvs ∧ G a = none ∧ H0 a = none
theorem DcR.mono {K : PySem.W.Frag} {G G' H H' : Hp} {a : Addr} {kvs : List (Dat × V)} (x : DcR K G H a kvs) (g : Same G G') (h : ∀ o, H a = some o → H' a = some o) : DcR K G' H' a kvs := by
  obtain ⟨xs, es, ⟨ob, e1, ra⟩, e2, e3, e4⟩ := x
  exact ⟨xs, es, ⟨ob, h _ e1, ra⟩, e2, L2.Paired.mapP e3 fun p x z => ⟨z.1, z.2.1, RdD.mono g _ _ z.2.2.1, z.2.2.2⟩, e4⟩
theorem DcR.at {K : PySem.W.Frag} {G H : Hp} {a : Addr} {kvs : List (Dat × V)} (x : DcR K G H a kvs) : ∃ φ, H a = some (.ext φ) := by
  obtain ⟨_, es, ⟨ob, e, ra⟩, _⟩ := x
  rcases ra with rfl | ⟨o, ep, rfl, _⟩
  · exact ⟨_, e⟩
  · exact ⟨_, e⟩
structure Rel (K : PySem.W.Frag) (H0 G0 G : Hp) (ρ : List Sl) (σ : L2.St) (H : Hp) : Prop where
  ext : Ext H0 G0 H G
  len : ρ.length = σ.length
  sl : ∀ (i : Nat) (s : Sl), ρ[i]? = some s → SlR K H0 G H s σ[i]?
  inj : ∀ (i j : Nat) (ds es : List Dat) (l : Addr), ρ[i]? = some (.ow ds) → ρ[j]? = some (.ow es) → σ[i]? = some (some (.ref l)) → σ[j]? = some (some (.ref l)) → i = j
def RvR (K : PySem.W.Frag) (H0 G H H' : Hp) : Rv → V → Prop
  | .v x, v => RdD K G x v
  | .n ds, v => ∃ l vs, v = .ref l ∧ H' l = some (.lst vs) ∧ RdL K G ds vs ∧ H l = none ∧ G l = none
  | .b ds, v => ∃ l vs, v = .ref l ∧ SqL K H0 l vs ∧ RdL K G ds vs
  | .o ds, v => ∃ l vs, v = .ref l ∧ H' l = some (.lst vs) ∧ RdL K G ds vs
theorem RvR.back {H0 G H H1 H' : Hp} {r : Rv} {v : V} (s : Same H H1) (h : RvR K H0 G H1 H' r v) : RvR K H0 G H H' r v := by
  cases r with
  | v x => exact h
  | n ds => obtain ⟨l, vs, a, b, c, d, e⟩ := h; exact ⟨l, vs, a, b, c, s.free d, e⟩
  | b ds => exact h
  | o ds => exact h
theorem RvR.on {H0 G H H1 G' H2 : Hp} {r : Rv} {v : V} (x : Ext H1 G H2 G') (h : RvR K H0 G H H1 r v) : RvR K H0 G' H H2 r v := by
  cases r with
  | v d => exact RdD.mono x.g _ _ h
  | n ds =>
    obtain ⟨l, vs, a, b, c, d, e⟩ := h
    exact ⟨l, vs, a, x.h _ _ b, c.mono x.g, d, x.f l (by rw [b]; exact fun z => nomatch z) e⟩
  | b ds => obtain ⟨l, vs, a, b, c⟩ := h; exact ⟨l, vs, a, b, c.mono x.g⟩
  | o ds => obtain ⟨l, vs, a, b, c⟩ := h; exact ⟨l, vs, a, x.h _ _ b, c.mono x.g⟩
/-- as data of the whole heap -/
theorem RvR.read {H0 G H H' : Hp} {r : Rv} {v : V} (s : Same G H') (s0 : Same H0 H') (h : RvR K H0 G H H' r v) : RdD K H' r.dat v := by
  cases r with
  | v d => exact RdD.mono s _ _ h
  | n ds => obtain ⟨l, vs, a, b, c, d, e⟩ := h; show RdD K H' (.lst ds) v; unfold RdD; exact ⟨l, vs, a, sq_of b, c.mono s⟩
  | b ds => obtain ⟨l, vs, a, b, c⟩ := h; show RdD K H' (.lst ds) v; unfold RdD; exact ⟨l, vs, a, rd_mono s0 b, c.mono s⟩
  | o ds => obtain ⟨l, vs, a, b, c⟩ := h; show RdD K H' (.lst ds) v; unfold RdD; exact ⟨l, vs, a, sq_of b, c.mono s⟩
/-- a list, whichever: where it stands, its items in the part that stays -/
theorem RvR.lst {H0 G H H' : Hp} {r : Rv} {v : V} {ds : List Dat} (s : Same G H') (s0 : Same H0 H') (h : RvR K H0 G H H' r v) (e : r.dat = .lst ds) : ∃ l vs, v = .ref l ∧ SqL K H' l vs ∧ RdL K G ds vs := by
  cases r with
  | v d =>
    have e : d = .lst ds := e
    subst e
    have h : RdD _ G (.lst ds) v := h
    unfold RdD at h
    obtain ⟨l, vs, a, b, c⟩ := h
    exact ⟨l, vs, a, rd_mono s b, c⟩
  | n es => obtain ⟨l, vs, a, b, c, d, f⟩ := h; injection e with e; subst e; exact ⟨l, vs, a, sq_of b, c⟩
  | b es => obtain ⟨l, vs, a, b, c⟩ := h; injection e with e; subst e; exact ⟨l, vs, a, rd_mono s0 b, c⟩
  | o es => obtain ⟨l, vs, a, b, c⟩ := h; injection e with e; subst e; exact ⟨l, vs, a, sq_of b, c⟩
theorem Rel.on {H0 G0 G G' H H' : Hp} {ρ : List Sl} {σ : L2.St} (R : Rel K H0 G0 G ρ σ H) (x : Ext H G H' G') : Rel K H0 G0 G' ρ σ H' := by
  refine ⟨R.ext.trans x, R.len, fun i s e => ?_, R.inj⟩
  have h := R.sl i s e
  cases s with
  | un => trivial
  | fz d => obtain ⟨v, a, b⟩ := h; exact ⟨v, a, RdD.mono x.g _ _ b⟩
  | ow ds =>
    obtain ⟨l, vs, a, b, c, d, e⟩ := h
    exact ⟨l, vs, a, x.h _ _ b, c.mono x.g, x.f l (by rw [b]; exact fun z => nomatch z) d, e⟩
  | br ds => obtain ⟨l, vs, a, b, c⟩ := h; exact ⟨l, vs, a, b, c.mono x.g⟩
  | adr a => exact h
  | dc a kvs =>
    obtain ⟨e1, e2, e3, e4⟩ := h
    obtain ⟨es, ea⟩ := e2.at
    exact ⟨e1, e2.mono x.g fun o => x.h _ _, x.f a (by rw [ea]; exact fun z => nomatch z) e3, e4⟩

/-! ### judgements -/
abbrev DE := List Sl → (Rv → Prop) → (Str → Prop) → Prop
abbrev DA := List Sl → (List Rv → Prop) → (Str → Prop) → Prop
abbrev DT := List Sl → (Bool → Prop) → (Str → Prop) → Prop
structure DEnds where
  nx : List Sl → Prop
  rt : Rv → Prop
  bk : List Sl → Prop
  ct : List Sl → Prop
  ex : Str → List Sl → Prop
abbrev DS := DEnds → List Sl → Prop

abbrev MG := Str → Option Value
/-- what is wished of an exception -/
def XOk (mg : MG) (W : WX) (H G : Hp) (σ : L2.St) (ε : Str → Prop) : Prop := ∀ nm cls H' G', Ext H G H' G' → mg nm = some cls → ε nm → W cls none σ H'
theorem XOk.on {mg : MG} {W : WX} {H G H1 G1 : Hp} {σ : L2.St} {ε : Str → Prop} (x : XOk mg W H G σ ε) (e : Ext H G H1 G1) : XOk mg W H1 G1 σ ε :=
  fun nm cls H' G' e' h k => x nm cls H' G' (e.trans e') h k
def EOk (K : PySem.W.Frag) (mg : MG) (W : WX) (t : TE) (δ : DE) : Prop := ∀ H0 G0 G ρ σ H (Q : VK) κ ε, Rel K H0 G0 G ρ σ H → δ ρ κ ε →
  (∀ v H' G' r, Ext H G H' G' → RvR K H0 G' H H' r v → κ r → Q v H') → XOk mg W H G σ ε → t σ H Q
def TOk (K : PySem.W.Frag) (mg : MG) (W : WX) (t : TT) (δ : DT) : Prop := ∀ H0 G0 G ρ σ H (Q : Bool → Hp → Prop) κ ε, Rel K H0 G0 G ρ σ H → δ ρ κ ε →
  (∀ b H' G', Ext H G H' G' → κ b → Q b H') → XOk mg W H G σ ε → t σ H Q
def RvsR (K : PySem.W.Frag) (H0 G H H' : Hp) : List Rv → List V → Prop
  | [], vs => vs = []
  | r :: rs, vs => ∃ v w, vs = v :: w ∧ RvR K H0 G H H' r v ∧ RvsR K H0 G H H' rs w
def AOk (K : PySem.W.Frag) (mg : MG) (W : WX) (t : TA) (δ : DA) : Prop := ∀ H0 G0 G ρ σ H (Q : List V → Hp → Prop) κ ε, Rel K H0 G0 G ρ σ H → δ ρ κ ε →
  (∀ vs H' G' rs, Ext H G H' G' → RvsR K H0 G' H H' rs vs → κ rs → Q vs H') → XOk mg W H G σ ε → t σ H Q
structure EndsOk (K : PySem.W.Frag) (mg : MG) (W : WX) (H0 G0 : Hp) (D : Ends) (κ : DEnds) : Prop where
  nx : ∀ ρ σ H G, Rel K H0 G0 G ρ σ H → κ.nx ρ → D.nx σ H
  bk : ∀ ρ σ H G, Rel K H0 G0 G ρ σ H → κ.bk ρ → D.bk σ H
  ct : ∀ ρ σ H G, Rel K H0 G0 G ρ σ H → κ.ct ρ → D.ct σ H
  rt : ∀ v H G r, Ext H0 G0 H G → RvR K H0 G H0 H r v → retOk r = true → κ.rt r → D.rt v H
  ex : ∀ nm cls ρ σ H G, Rel K H0 G0 G ρ σ H → mg nm = some cls → κ.ex nm ρ → W cls none σ H
def SOk (K : PySem.W.Frag) (mg : MG) (W : WX) (t : TS) (δ : DS) : Prop := ∀ H0 G0 G ρ σ H (D : Ends) κ, Rel K H0 G0 G ρ σ H → δ κ ρ → EndsOk K mg W H0 G0 D κ → t D σ H
/-- the wish of exceptions at an expression of a statement -/
theorem EndsOk.xok {mg : MG} {W : WX} {H0 G0 G H : Hp} {ρ : List Sl} {σ : L2.St} {D : Ends} {κ : DEnds} (E : EndsOk K mg W H0 G0 D κ) (R : Rel K H0 G0 G ρ σ H) : XOk mg W H G σ (fun nm => κ.ex nm ρ) :=
  fun nm cls H' G' x h k => E.ex nm cls ρ σ H' G' (R.on x) h k

structure ME (X : Cx) (W : WX) (e : Expr) (δ : DE) : Prop where
  ex : ∃ t, PE X e t ∧ EOk X.K X.mg W t δ
structure MT (X : Cx) (W : WX) (e : Expr) (δ : DT) : Prop where
  ex : ∃ t, PT X e t ∧ TOk X.K X.mg W t δ
structure MA (X : Cx) (W : WX) (es : List Expr) (δ : DA) : Prop where
  ex : ∃ t, PA X es t ∧ AOk X.K X.mg W t δ
structure MS (X : Cx) (W : WX) (s : Stmt) (δ : DS) : Prop where
  ex : ∃ t, PS X s t ∧ SOk X.K X.mg W t δ
structure MSs (X : Cx) (W : WX) (s : List Stmt) (δ : DS) : Prop where
  ex : ∃ t, PSs X s t ∧ SOk X.K X.mg W t δ
end DL
namespace DL
open PySem PySem.Spec PyProof.Rows L2
variable {K : PySem.W.Frag}

/-! ### combinators -/
def dVar (i : Nat) : DE := fun ρ κ _ => match ρ[i]? with
  | some (.fz d) => κ (.v d)
  | some (.ow ds) => κ (.o ds)
  | some (.br ds) => κ (.b ds)
  | _ => False
def dC (d : Dat) : DE := fun _ κ _ => κ (.v d)
/-- two in a row, then what is made of both -/
def dBin (k : Rv → Rv → (Rv → Prop) → (Str → Prop) → Prop) (a b : DE) : DE := fun ρ κ ε => a ρ (fun x => b ρ (fun y => k x y κ ε) ε) ε
def dUn (k : Rv → (Rv → Prop) → (Str → Prop) → Prop) (a : DE) : DE := fun ρ κ ε => a ρ (fun x => k x κ ε) ε
def asI (r : Rv) (k : Int → Prop) : Prop := match r with
  | .v (.int i) => k i
  | _ => False
def asB (r : Rv) (k : Bool → Prop) : Prop := match r with
  | .v (.bl i) => k i
  | _ => False
def asL (r : Rv) (k : List Dat → Prop) : Prop := match r.dat with
  | .lst ds => k ds
  | _ => False
/-- list or tuple -/
def asQ (r : Rv) (k : List Dat → Prop) : Prop := match r.dat with
  | .lst ds => k ds
  | .tup ds => k ds
  | _ => False
/-- of a thing that must be there -/
inductive onS {α : Type} (o : Option α) (k : α → Prop) : Prop where
  | mk (x : α) (e : o = some x) (h : k x) : onS o k
theorem onS_some {α : Type} {o : Option α} {x : α} {k : α → Prop} (e : o = some x) (h : k x) : onS o k := .mk x e h
theorem onS.of {α : Type} {o : Option α} {k : α → Prop} (h : onS o k) : ∃ x, o = some x ∧ k x := by
  cases h with
  | mk x e h => exact ⟨x, e, h⟩
theorem asI.of {r : Rv} {k : Int → Prop} (h : asI r k) : ∃ i, r = .v (.int i) ∧ k i := by
  unfold asI at h
  split at h
  · exact ⟨_, rfl, h⟩
  · exact h.elim
theorem asB.of {r : Rv} {k : Bool → Prop} (h : asB r k) : ∃ i, r = .v (.bl i) ∧ k i := by
  unfold asB at h
  split at h
  · exact ⟨_, rfl, h⟩
  · exact h.elim
theorem asL.of {r : Rv} {k : List Dat → Prop} (h : asL r k) : ∃ ds, r.dat = .lst ds ∧ k ds := by
  unfold asL at h
  split at h
  · rename_i e; exact ⟨_, e, h⟩
  · exact h.elim
theorem asQ.of {r : Rv} {k : List Dat → Prop} (h : asQ r k) : ∃ ds, (r.dat = .lst ds ∨ r.dat = .tup ds) ∧ k ds := by
  unfold asQ at h
  split at h
  · rename_i e; exact ⟨_, .inl e, h⟩
  · rename_i e; exact ⟨_, .inr e, h⟩
  · exact h.elim

/-- what an operation on two values does, over data -/
def Op2 (K : PySem.W.Frag) (r : R2) (k : Rv → Rv → (Rv → Prop) → (Str → Prop) → Prop) : Prop :=
  ∀ (H0 G Hs H : Hp) (x y : Rv) (v u : V) (Q : VK) (κ : Rv → Prop) (ε : Str → Prop), Same G H → Same H0 H → Same Hs H → RvR K H0 G Hs H x v → RvR K H0 G Hs H y u → k x y κ ε →
    (∀ w H' G' z, Ext H G H' G' → RvR K H0 G' H H' z w → κ z → Q w H') → r v u H Q
def Op1 (K : PySem.W.Frag) (r : V → Hp → VK → Prop) (k : Rv → (Rv → Prop) → (Str → Prop) → Prop) : Prop :=
  ∀ (H0 G Hs H : Hp) (x : Rv) (v : V) (Q : VK) (κ : Rv → Prop) (ε : Str → Prop), Same G H → Same H0 H → Same Hs H → RvR K H0 G Hs H x v → k x κ ε →
    (∀ w H' G' z, Ext H G H' G' → RvR K H0 G' H H' z w → κ z → Q w H') → r v H Q

section
variable {mg : MG} {W : WX} {ta tb : TE} {a b : DE}
theorem eok_bin {r : R2} {k : Rv → Rv → (Rv → Prop) → (Str → Prop) → Prop} (ha : EOk K mg W ta a) (hb : EOk K mg W tb b) (hr : Op2 K r k) : EOk K mg W (tOp r ta tb) (dBin k a b) := by
  intro H0 G0 G ρ σ H Q κ ε R h hq hx
  refine ha H0 G0 G ρ σ H _ _ ε R h (fun v H1 G1 x e1 r1 h1 => ?_) hx
  have R1 := R.on e1
  refine hb H0 G0 G1 ρ σ H1 _ _ ε R1 h1 (fun u H2 G2 y e2 r2 h2 => ?_) (hx.on e1)
  have R2 := R1.on e2
  have e := e1.trans e2
  refine hr H0 G2 H H2 x y v u Q κ ε e2.s R2.ext.h e.h (r1.on e2) (r2.back e1.h) h2 (fun w H' G' z e3 r3 h3 => ?_)
  exact hq w H' G' z (e.trans e3) (r3.back e.h) h3
theorem eok_un {r : V → Hp → VK → Prop} {k : Rv → (Rv → Prop) → (Str → Prop) → Prop} (ha : EOk K mg W ta a) (hr : Op1 K r k) : EOk K mg W (tUn r ta) (dUn k a) := by
  intro H0 G0 G ρ σ H Q κ ε R h hq hx
  refine ha H0 G0 G ρ σ H _ _ ε R h (fun v H1 G1 x e1 r1 h1 => ?_) hx
  have R1 := R.on e1
  refine hr H0 G1 H H1 x v Q κ ε e1.s R1.ext.h e1.h r1 h1 (fun w H' G' z e3 r3 h3 => ?_)
  exact hq w H' G' z (e1.trans e3) (r3.back e1.h) h3
theorem eok_var (i : Nat) : EOk K mg W (tVar i) (dVar i) := by
  intro H0 G0 G ρ σ H Q κ ε R h hq hx
  unfold dVar at h
  have x := Ext.refl R.ext.s
  split at h
  · rename_i d e
    obtain ⟨v, e1, e2⟩ := R.sl _ _ e
    exact ⟨v, e1, hq v H G (.v d) x e2 h⟩
  · rename_i d e
    obtain ⟨l, vs, e1, e2, e3, e4, e5⟩ := R.sl _ _ e
    exact ⟨.ref l, e1, hq _ H G (.o d) x ⟨l, vs, rfl, e2, e3⟩ h⟩
  · rename_i d e
    obtain ⟨l, vs, e1, e2, e3⟩ := R.sl _ _ e
    exact ⟨.ref l, e1, hq _ H G (.b d) x ⟨l, vs, rfl, e2, e3⟩ h⟩
  · exact h.elim
theorem eok_c {v : V} {d : Dat} (hd : ∀ G, RdD K G d v) : EOk K mg W (tC v) (dC d) := by
  intro H0 G0 G ρ σ H Q κ ε R h hq hx
  exact hq v H G (.v d) (Ext.refl R.ext.s) (hd G) h
end

section
variable {X : Cx} {W : WX} {a b c e : Expr} {da db dc : DE} {pos : Pos}
theorem me_var (i : Nat) {x : Str} (hN : X.N[i]? = some x := by rfl) (hv : Vis X.env.scope x := by first | exact Or.inl rfl | exact Or.inr (Or.inl rfl) | exact Or.inr (Or.inr rfl)) (hd : (x == ("__debug__" : Str)) = false := by decide)
    (hcd : (x == ("__classdict__" : Str)) = false := by decide) : ME X W (.Name x pos) (dVar i) := ⟨_, pe_var hN hv hd hcd, eok_var i⟩
theorem me_int {i : Int} {j : Nat} : ME X W (.Constant (.int i) j pos) (dC (.int i)) := ⟨_, pe_int, eok_c fun _ => by unfold RdD; rfl⟩
theorem me_bl {i : Bool} {j : Nat} : ME X W (.Constant (.bool i) j pos) (dC (.bl i)) := ⟨_, pe_bl, eok_c fun _ => by unfold RdD; rfl⟩
theorem me_non {j : Nat} : ME X W (.Constant .none j pos) (dC .non) := ⟨_, pe_non, eok_c fun _ => by unfold RdD; rfl⟩
theorem me_str {x : Str} {j : Nat} : ME X W (.Constant (.str x) j pos) (dC (.str x)) := ⟨_, pe_str, eok_c fun _ => by unfold RdD; rfl⟩
/-- a module's constant, an int -/
theorem me_glob {x : Str} {i : Int} {t : Tok} (hg : Gl X x) (hm : X.mg x = some (.int i t)) (hd : (x == ("__debug__" : Str)) = false := by decide) : ME X W (.Name x pos) (dC (.int i)) := ⟨_, pe_glob (v := .int i) hg hm ⟨t, rfl⟩ hd, eok_c fun _ => by unfold RdD; rfl⟩
theorem me_bin {op : Operator} {r : R2} {k : Rv → Rv → (Rv → Prop) → (Str → Prop) → Prop} (ho : OpR X (binaryOp op) r) (hr : Op2 X.K r k) (ha : ME X W a da) (hb : ME X W b db) : ME X W (.BinOp a op b pos) (dBin k da db) := by
  obtain ⟨ta, pa, oa⟩ := ha
  obtain ⟨tb, pb, ob⟩ := hb
  exact ⟨_, pe_op ho pa pb, eok_bin oa ob hr⟩
theorem me_un {op : UnaryOp} {r : V → Hp → VK → Prop} {k : Rv → (Rv → Prop) → (Str → Prop) → Prop} (ho : UnR X (unaryOp op) r) (hr : Op1 X.K r k) (ha : ME X W a da) : ME X W (.UnaryOp op a pos) (dUn k da) := by
  obtain ⟨ta, pa, oa⟩ := ha
  exact ⟨_, pe_un ho pa, eok_un oa hr⟩
theorem me_cmp {op : CmpOp} {r : R2} {k : Rv → Rv → (Rv → Prop) → (Str → Prop) → Prop} (ho : OpR X (compareOp op) r) (hr : Op2 X.K r k) (ha : ME X W a da) (hb : ME X W b db) (hm : behindInMarks op b = false) : ME X W (.Compare a [op] [b] pos) (dBin k da db) := by
  obtain ⟨ta, pa, oa⟩ := ha
  obtain ⟨tb, pb, ob⟩ := hb
  exact ⟨_, pe_cmpR ho pa pb hm, eok_bin oa ob hr⟩
end

/-! ### operations on ints -/
def kI (C : Int → Int → Prop) (g : Int → Int → Dat) : Rv → Rv → (Rv → Prop) → (Str → Prop) → Prop := fun x y κ _ => asI x fun i => asI y fun j => C i j ∧ κ (.v (g i j))
def kI0 (g : Int → Int → Dat) : Rv → Rv → (Rv → Prop) → (Str → Prop) → Prop := fun x y κ _ => asI x fun i => asI y fun j => κ (.v (g i j))
def kU (g : Int → Dat) : Rv → (Rv → Prop) → (Str → Prop) → Prop := fun x κ _ => asI x fun i => κ (.v (g i))
theorem op2_I {C : Int → Int → Prop} {g : Int → Int → V} {g' : Int → Int → Dat} (hg : ∀ i j G, RdD K G (g' i j) (g i j)) : Op2 K (rI C g) (kI C g') := by
  intro H0 G Hs H x y v u Q κ ε s s0 sh rx ry h q
  obtain ⟨i, rfl, h1⟩ := asI.of h
  obtain ⟨j, rfl, hc, hk⟩ := asI.of h1
  have rx : RdD K G (.int i) v := rx
  have ry : RdD K G (.int j) u := ry
  unfold RdD at rx ry
  exact ⟨i, j, rx, ry, hc, q _ H G (.v (g' i j)) (Ext.refl s) (hg i j G) hk⟩
theorem op2_I0 {g : Int → Int → V} {g' : Int → Int → Dat} (hg : ∀ i j G, RdD K G (g' i j) (g i j)) : Op2 K (rI0 g) (kI0 g') := by
  intro H0 G Hs H x y v u Q κ ε s s0 sh rx ry h q
  obtain ⟨i, rfl, h1⟩ := asI.of h
  obtain ⟨j, rfl, hk⟩ := asI.of h1
  have rx : RdD K G (.int i) v := rx
  have ry : RdD K G (.int j) u := ry
  unfold RdD at rx ry
  exact ⟨i, j, rx, ry, q _ H G (.v (g' i j)) (Ext.refl s) (hg i j G) hk⟩
theorem op1_U {g : Int → V} {g' : Int → Dat} (hg : ∀ i G, RdD K G (g' i) (g i)) : Op1 K (rU g) (kU g') := by
  intro H0 G Hs H x v Q κ ε s s0 sh rx h q
  obtain ⟨i, rfl, hk⟩ := asI.of h
  have rx : RdD K G (.int i) v := rx
  unfold RdD at rx
  exact ⟨i, rx, q _ H G (.v (g' i)) (Ext.refl s) (hg i G) hk⟩
/-- a number of at most so many bits -/
def Sz (k : Nat) (i : Int) : Prop := i.natAbs.log2 < k
def MulOk (i j : Int) : Prop := i.natAbs.log2 + j.natAbs.log2 < 100000000
theorem MulOk.ok {i j : Int} (h : MulOk i j) : IntMulOk i j := by
  have b : ∀ x : Int, Builtin.Int.intBits x ≤ x.natAbs.log2 + 1 := fun x => by
    unfold Builtin.Int.intBits
    split <;> omega
  unfold IntMulOk
  intro z
  rw [Bool.and_eq_true] at z
  obtain ⟨_, z⟩ := z
  unfold Builtin.Int.intTooBig at z
  have z := of_decide_eq_true z
  rw [show bitsLine = 134217728 by decide] at z
  unfold MulOk at h
  have p := b i
  have q := b j
  omega
def DivOk (_ j : Int) : Prop := j ≠ 0 ∧ j.natAbs.log2 < 9000
def DivP (_ j : Int) : Prop := 0 < j ∧ j.natAbs.log2 < 9000
def ModOk (_ j : Int) : Prop := j ≠ 0
def ModP (_ j : Int) : Prop := 0 < j
section
variable {X : Cx}
theorem op_mulD : OpR X (binaryOp .Mult) (rI MulOk fun i j => .int (i * j)) := opI fun _ _ _ _ _ _ _ hc q => mul_int q hc.ok
theorem op_fdivD : OpR X (binaryOp .FloorDiv) (rI DivOk fun i j => .int (i.fdiv j)) := opI fun _ _ _ _ _ _ _ hc q => floordiv_int hc.1 q (.inl (PyProof.noPylong_of_log2 hc.2))
theorem op_fdivP : OpR X (binaryOp .FloorDiv) (rI DivP fun i j => .int (i / j)) := opI fun i j _ _ _ _ _ hc q => by
  have p : 0 < j := hc.1
  refine floordiv_int (Int.ne_of_gt p) ?_ (.inl (PyProof.noPylong_of_log2 hc.2))
  rw [Int.fdiv_eq_ediv_of_nonneg i (Int.le_of_lt p)]; exact q
variable {W : WX} {a b : Expr} {da db : DE} {pos : Pos}
def dAdd := dBin (kI0 fun i j => .int (i + j))
def dSub := dBin (kI0 fun i j => .int (i - j))
def dMul := dBin (kI MulOk fun i j => .int (i * j))
def dDiv := dBin (kI DivOk fun i j => .int (i.fdiv j))
def dMod := dBin (kI ModOk fun i j => .int (i.fmod j))
def dDivP := dBin (kI DivP fun i j => .int (i / j))
def dModP := dBin (kI ModP fun i j => .int (i % j))
def dPow := dBin (kI CPow fun i j => .int (i ^ j.toNat))
def dLt := dBin (kI0 fun i j => .bl (decide (i < j)))
def dLe := dBin (kI0 fun i j => .bl (decide (i ≤ j)))
def dGt := dBin (kI0 fun i j => .bl (decide (j < i)))
def dGe := dBin (kI0 fun i j => .bl (decide (j ≤ i)))
def dEqI := dBin (kI0 fun i j => .bl (decide (i = j)))
def dNeI := dBin (kI0 fun i j => .bl (!decide (i = j)))
def dNeg := dUn (kU fun i => .int (-i))
theorem rdI {f : Int → Int → Int} (i j : Int) (G : Hp) : RdD K G (Dat.int (f i j)) (V.int (f i j)) := by unfold RdD; rfl
theorem rdB {f : Int → Int → Bool} (i j : Int) (G : Hp) : RdD K G (Dat.bl (f i j)) (V.bl (f i j)) := by unfold RdD; rfl
theorem me_add (ha : ME X W a da) (hb : ME X W b db) : ME X W (.BinOp a .Add b pos) (dAdd da db) := me_bin op_add (op2_I0 rdI) ha hb
theorem me_sub (ha : ME X W a da) (hb : ME X W b db) : ME X W (.BinOp a .Sub b pos) (dSub da db) := me_bin op_sub (op2_I0 rdI) ha hb
theorem me_mul (ha : ME X W a da) (hb : ME X W b db) : ME X W (.BinOp a .Mult b pos) (dMul da db) := me_bin op_mulD (op2_I rdI) ha hb
theorem me_div (ha : ME X W a da) (hb : ME X W b db) : ME X W (.BinOp a .FloorDiv b pos) (dDiv da db) := me_bin op_fdivD (op2_I rdI) ha hb
theorem me_divP (ha : ME X W a da) (hb : ME X W b db) : ME X W (.BinOp a .FloorDiv b pos) (dDivP da db) := me_bin op_fdivP (op2_I rdI) ha hb
theorem me_mod (ha : ME X W a da) (hb : ME X W b db) : ME X W (.BinOp a .Mod b pos) (dMod da db) := me_bin op_modN (op2_I (C := ModOk) rdI) ha hb
theorem me_modP (ha : ME X W a da) (hb : ME X W b db) : ME X W (.BinOp a .Mod b pos) (dModP da db) := me_bin op_mod (op2_I (C := ModP) rdI) ha hb
theorem me_pow (ha : ME X W a da) (hb : ME X W b db) : ME X W (.BinOp a .Pow b pos) (dPow da db) := me_bin op_pow (op2_I rdI) ha hb
theorem me_neg (ha : ME X W a da) : ME X W (.UnaryOp .USub a pos) (dNeg da) := me_un un_neg (op1_U fun i G => by unfold RdD; rfl) ha
theorem me_lt (ha : ME X W a da) (hb : ME X W b db) : ME X W (.Compare a [.Lt] [b] pos) (dLt da db) := me_cmp op_lt (op2_I0 rdB) ha hb (nomark _)
theorem me_le (ha : ME X W a da) (hb : ME X W b db) : ME X W (.Compare a [.LtE] [b] pos) (dLe da db) := me_cmp op_le (op2_I0 rdB) ha hb (nomark _)
theorem me_gt (ha : ME X W a da) (hb : ME X W b db) : ME X W (.Compare a [.Gt] [b] pos) (dGt da db) := me_cmp op_gt (op2_I0 rdB) ha hb (nomark _)
theorem me_ge (ha : ME X W a da) (hb : ME X W b db) : ME X W (.Compare a [.GtE] [b] pos) (dGe da db) := me_cmp op_ge (op2_I0 rdB) ha hb (nomark _)
end

/-! ### == of data -/
mutual
def toPy : Dat → PyData
  | .non => .none
  | .bl b => .bool b
  | .int i => .int i
  | .str x => .str x
  | .tup ds => .tuple (toPyL ds)
  | .lst ds => .list (toPyL ds)
  | .dic _ => .none
def toPyL : List Dat → List PyData
  | [] => []
  | d :: ds => toPy d :: toPyL ds
end
mutual
/-- no dict within -/
def plainD : Dat → Bool
  | .tup ds => plainDL ds
  | .lst ds => plainDL ds
  | .dic _ => false
  | _ => true
def plainDL : List Dat → Bool
  | [] => true
  | d :: ds => plainD d && plainDL ds
end
mutual
theorem RdD.dp {K : PySem.W.Frag} {H : Hp} : ∀ (d : Dat) (v : V), plainD d = true → RdD K H d v → Dp K H v (toPy d)
  | .non, _, _, h => by unfold RdD at h; subst h; unfold toPy; exact .non
  | .bl b, _, _, h => by unfold RdD at h; subst h; unfold toPy; exact .bl b
  | .int i, _, _, h => by unfold RdD at h; subst h; unfold toPy; exact .int i
  | .str x, _, _, h => by unfold RdD at h; subst h; unfold toPy; exact .str x
  | .tup ds, v, p, h => by
    unfold plainD at p; unfold RdD at h; unfold toPy
    obtain ⟨a, vs, rfl, g, r⟩ := h
    exact .tup (SqT.of g) (RdL.dp ds vs p r)
  | .lst ds, v, p, h => by
    unfold plainD at p; unfold RdD at h; unfold toPy
    obtain ⟨a, vs, rfl, g, r⟩ := h
    exact .lst g (RdL.dp ds vs p r)
  | .dic _, _, p, _ => by unfold plainD at p; exact nomatch p
theorem RdL.dp {K : PySem.W.Frag} {H : Hp} : ∀ (ds : List Dat) (vs : List V), plainDL ds = true → RdL K H ds vs → DpAll K H vs (toPyL ds)
  | [], _, _, h => by unfold RdL at h; subst h; unfold toPyL; exact .nil
  | d :: ds, vs, p, h => by
    unfold plainDL at p; rw [Bool.and_eq_true] at p
    unfold RdL at h; unfold toPyL
    obtain ⟨v, r, rfl, h1, h2⟩ := h
    exact .cons (RdD.dp d v p.1 h1) (RdL.dp ds r p.2 h2)
end
mutual
/-- Python's == of data -/
def eqD : Dat → Dat → Bool
  | .non, .non => true
  | .bl a, .bl b => a == b
  | .bl a, .int j => (if a then 1 else 0) == j
  | .int i, .bl b => i == (if b then 1 else 0)
  | .int i, .int j => i == j
  | .str x, .str y => x == y
  | .tup xs, .tup ys => eqDL xs ys
  | .lst xs, .lst ys => eqDL xs ys
  | _, _ => false
def eqDL : List Dat → List Dat → Bool
  | [], [] => true
  | x :: xs, y :: ys => eqD x y && eqDL xs ys
  | _, _ => false
end
mutual
theorem eqD_py : ∀ a b : Dat, plainD a = true → plainD b = true → eqD a b = PyData.eqv (toPy a) (toPy b) := by
  intro a b ha hb
  cases a with
  | tup xs =>
    cases b with
    | tup ys => unfold plainD at ha hb; unfold eqD toPy PyData.eqv; exact eqDL_py xs ys ha hb
    | dic _ => unfold plainD at hb; exact nomatch hb
    | _ => unfold eqD toPy PyData.eqv; rfl
  | lst xs =>
    cases b with
    | lst ys => unfold plainD at ha hb; unfold eqD toPy PyData.eqv; exact eqDL_py xs ys ha hb
    | dic _ => unfold plainD at hb; exact nomatch hb
    | _ => unfold eqD toPy PyData.eqv; rfl
  | dic _ => unfold plainD at ha; exact nomatch ha
  | _ =>
    cases b with
    | dic _ => unfold plainD at hb; exact nomatch hb
    | _ => unfold eqD toPy PyData.eqv; rfl
theorem eqDL_py : ∀ a b : List Dat, plainDL a = true → plainDL b = true → eqDL a b = PyData.eqvAll (toPyL a) (toPyL b) := by
  intro a b ha hb
  cases a with
  | nil =>
    cases b with
    | nil => unfold eqDL toPyL PyData.eqvAll; rfl
    | cons y ys => unfold eqDL toPyL PyData.eqvAll; rfl
  | cons x xs =>
    cases b with
    | nil => unfold eqDL toPyL PyData.eqvAll; rfl
    | cons y ys =>
      unfold plainDL at ha hb
      rw [Bool.and_eq_true] at ha hb
      unfold eqDL toPyL PyData.eqvAll
      rw [eqD_py x y ha.1 hb.1, eqDL_py xs ys ha.2 hb.2]
end
mutual
/-- data that == goes through: no dict within, depth at most n -/
def shp : Nat → Dat → Bool
  | _, .non => true
  | _, .bl _ => true
  | _, .int _ => true
  | _, .str x => PyData.strOk x
  | n + 1, .tup ds => shpL n ds
  | n + 1, .lst ds => shpL n ds
  | _, _ => false
def shpL : Nat → List Dat → Bool
  | _, [] => true
  | n, d :: ds => shp n d && shpL n ds
end
mutual
theorem shp_ok : ∀ (n : Nat) (d : Dat), shp n d = true → plainD d = true ∧ (toPy d).canLay0 = true ∧ (toPy d).depth ≤ n
  | n, .non, _ => by unfold plainD toPy PyData.canLay0 PyData.depth; exact ⟨rfl, rfl, Nat.zero_le _⟩
  | n, .bl _, _ => by unfold plainD toPy PyData.canLay0 PyData.depth; exact ⟨rfl, rfl, Nat.zero_le _⟩
  | n, .int _, _ => by unfold plainD toPy PyData.canLay0 PyData.depth; exact ⟨rfl, rfl, Nat.zero_le _⟩
  | n, .str x, h => by unfold shp at h; unfold plainD toPy PyData.canLay0 PyData.depth; exact ⟨rfl, h, Nat.zero_le _⟩
  | 0, .tup ds, h => by unfold shp at h; exact nomatch h
  | 0, .lst ds, h => by unfold shp at h; exact nomatch h
  | n, .dic _, h => by cases n <;> (unfold shp at h; exact nomatch h)
  | n + 1, .tup ds, h => by
    unfold shp at h
    obtain ⟨a, b, c⟩ := shpL_ok n ds h
    unfold plainD toPy PyData.canLay0 PyData.depth
    exact ⟨a, b, Nat.succ_le_succ c⟩
  | n + 1, .lst ds, h => by
    unfold shp at h
    obtain ⟨a, b, c⟩ := shpL_ok n ds h
    unfold plainD toPy PyData.canLay0 PyData.depth
    exact ⟨a, b, Nat.succ_le_succ c⟩
theorem shpL_ok : ∀ (n : Nat) (ds : List Dat), shpL n ds = true → plainDL ds = true ∧ PyData.canLayAll0 (toPyL ds) = true ∧ PyData.depthAll (toPyL ds) ≤ n
  | n, [], _ => by unfold plainDL toPyL PyData.canLayAll0 PyData.depthAll; exact ⟨rfl, rfl, Nat.zero_le _⟩
  | n, d :: ds, h => by
    unfold shpL at h
    rw [Bool.and_eq_true] at h
    obtain ⟨a, b, c⟩ := shp_ok n d h.1
    obtain ⟨a2, b2, c2⟩ := shpL_ok n ds h.2
    unfold plainDL toPyL PyData.canLayAll0 PyData.depthAll
    exact ⟨by rw [a, a2]; rfl, by rw [b, b2]; rfl, Nat.max_le.mpr ⟨c, c2⟩⟩
end
theorem shp_shaped {d : Dat} (h : shp 64 d = true) : plainD d = true ∧ SeqAt.shaped (toPy d) = true := by
  obtain ⟨a, b, c⟩ := shp_ok 64 d h
  exact ⟨a, by unfold SeqAt.shaped; rw [b, decide_eq_true c]; rfl⟩
def kEq : Rv → Rv → (Rv → Prop) → (Str → Prop) → Prop := fun x y κ _ =>
  (shp 64 x.dat = true ∧ shp 64 y.dat = true) ∧ κ (.v (.bl (eqD x.dat y.dat)))
def kNe : Rv → Rv → (Rv → Prop) → (Str → Prop) → Prop := fun x y κ _ =>
  (shp 64 x.dat = true ∧ shp 64 y.dat = true) ∧ κ (.v (.bl (!eqD x.dat y.dat)))
theorem op2_eq {K : PySem.W.Frag} : Op2 K (rEqD K) kEq := by
  intro H0 G Hs H x y v u Q κ ε s s0 sh rx ry h q
  obtain ⟨⟨p1, p2⟩, hk⟩ := h
  obtain ⟨p1, p3⟩ := shp_shaped p1
  obtain ⟨p2, p4⟩ := shp_shaped p2
  refine ⟨_, _, RdD.dp _ _ p1 (rx.read s s0), RdD.dp _ _ p2 (ry.read s s0), p3, p4, ?_⟩
  rw [← eqD_py _ _ p1 p2]
  exact q _ H G (.v (.bl _)) (Ext.refl s) (by show RdD K G _ _; unfold RdD; rfl) hk
theorem op2_ne {K : PySem.W.Frag} : Op2 K (rNeD K) kNe := by
  intro H0 G Hs H x y v u Q κ ε s s0 sh rx ry h q
  obtain ⟨⟨p1, p2⟩, hk⟩ := h
  obtain ⟨p1, p3⟩ := shp_shaped p1
  obtain ⟨p2, p4⟩ := shp_shaped p2
  refine ⟨_, _, RdD.dp _ _ p1 (rx.read s s0), RdD.dp _ _ p2 (ry.read s s0), p3, p4, ?_⟩
  rw [← eqD_py _ _ p1 p2]
  exact q _ H G (.v (.bl _)) (Ext.refl s) (by show RdD K G _ _; unfold RdD; rfl) hk
end DL
namespace DL
open PySem PySem.Spec PyProof.Rows L2
variable {K : PySem.W.Frag}

/-! ### truths -/
def dAnd (a b : DE) : DE := fun ρ κ ε => a ρ (fun x => asB x fun c => if c = true then b ρ κ ε else κ (.v (.bl false))) ε
def dOr (a b : DE) : DE := fun ρ κ ε => a ρ (fun x => asB x fun c => if c = true then κ (.v (.bl true)) else b ρ κ ε) ε
def dNot (a : DE) : DE := fun ρ κ ε => a ρ (fun x => asB x fun c => κ (.v (.bl (!c)))) ε
def tVal (a : DE) : DT := fun ρ κ ε => a ρ (fun x => asB x κ) ε
def tAndD (a b : DT) : DT := fun ρ κ ε => a ρ (fun c => if c = true then b ρ κ ε else κ false) ε
def tOrD (a b : DT) : DT := fun ρ κ ε => a ρ (fun c => if c = true then κ true else b ρ κ ε) ε
def tNotD (a : DT) : DT := fun ρ κ ε => a ρ (fun c => κ (!c)) ε
theorem rd_bl {G : Hp} {b : Bool} : RdD K G (Dat.bl b) (V.bl b) := by unfold RdD; rfl
section
variable {mg : MG} {W : WX} {ta tb : TE} {a b : DE} {ua ub : TT} {p q : DT}
theorem eok_and (ha : EOk K mg W ta a) (hb : EOk K mg W tb b) : EOk K mg W (tAndV ta tb) (dAnd a b) := by
  intro H0 G0 G ρ σ H Q κ ε R h hq hx
  refine ha H0 G0 G ρ σ H _ _ ε R h (fun v H1 G1 x e1 r1 h1 => ?_) hx
  obtain ⟨c, rfl, k⟩ := asB.of h1
  have r1 : RdD K G1 (.bl c) v := r1
  unfold RdD at r1
  refine ⟨c, r1, ?_⟩
  by_cases hc : c = true
  · rw [if_pos hc] at k ⊢
    exact hb H0 G0 G1 ρ σ H1 Q κ ε (R.on e1) k (fun v2 H2 G2 z e2 r2 h2 => hq v2 H2 G2 z (e1.trans e2) (r2.back e1.h) h2) (hx.on e1)
  · rw [if_neg hc] at k ⊢
    exact hq _ H1 G1 (.v (.bl false)) e1 (rd_bl (K := K) (G := G1)) k
theorem eok_or (ha : EOk K mg W ta a) (hb : EOk K mg W tb b) : EOk K mg W (tOrV ta tb) (dOr a b) := by
  intro H0 G0 G ρ σ H Q κ ε R h hq hx
  refine ha H0 G0 G ρ σ H _ _ ε R h (fun v H1 G1 x e1 r1 h1 => ?_) hx
  obtain ⟨c, rfl, k⟩ := asB.of h1
  have r1 : RdD K G1 (.bl c) v := r1
  unfold RdD at r1
  refine ⟨c, r1, ?_⟩
  by_cases hc : c = true
  · rw [if_pos hc] at k ⊢
    exact hq _ H1 G1 (.v (.bl true)) e1 (rd_bl (K := K) (G := G1)) k
  · rw [if_neg hc] at k ⊢
    exact hb H0 G0 G1 ρ σ H1 Q κ ε (R.on e1) k (fun v2 H2 G2 z e2 r2 h2 => hq v2 H2 G2 z (e1.trans e2) (r2.back e1.h) h2) (hx.on e1)
theorem eok_not (ha : EOk K mg W ta a) : EOk K mg W (tNotV ta) (dNot a) := by
  intro H0 G0 G ρ σ H Q κ ε R h hq hx
  refine ha H0 G0 G ρ σ H _ _ ε R h (fun v H1 G1 x e1 r1 h1 => ?_) hx
  obtain ⟨c, rfl, k⟩ := asB.of h1
  have r1 : RdD K G1 (.bl c) v := r1
  unfold RdD at r1
  exact ⟨c, r1, hq _ H1 G1 (.v (.bl (!c))) e1 (rd_bl (K := K) (G := G1)) k⟩
theorem tok_val (ha : EOk K mg W ta a) : TOk K mg W (tB ta) (tVal a) := by
  intro H0 G0 G ρ σ H Q κ ε R h hq hx
  refine ha H0 G0 G ρ σ H _ _ ε R h (fun v H1 G1 x e1 r1 h1 => ?_) hx
  obtain ⟨c, rfl, k⟩ := asB.of h1
  have r1 : RdD K G1 (.bl c) v := r1
  unfold RdD at r1
  exact ⟨c, r1, hq _ H1 G1 e1 k⟩
theorem tok_and (ha : TOk K mg W ua p) (hb : TOk K mg W ub q) : TOk K mg W (tAnd ua ub) (tAndD p q) := by
  intro H0 G0 G ρ σ H Q κ ε R h hq hx
  refine ha H0 G0 G ρ σ H _ _ ε R h (fun c H1 G1 e1 k => ?_) hx
  by_cases hc : c = true
  · rw [if_pos hc] at k ⊢
    exact hb H0 G0 G1 ρ σ H1 Q κ ε (R.on e1) k (fun v2 H2 G2 e2 h2 => hq v2 H2 G2 (e1.trans e2) h2) (hx.on e1)
  · rw [if_neg hc] at k ⊢
    exact hq _ H1 G1 e1 k
theorem tok_or (ha : TOk K mg W ua p) (hb : TOk K mg W ub q) : TOk K mg W (tOr ua ub) (tOrD p q) := by
  intro H0 G0 G ρ σ H Q κ ε R h hq hx
  refine ha H0 G0 G ρ σ H _ _ ε R h (fun c H1 G1 e1 k => ?_) hx
  by_cases hc : c = true
  · rw [if_pos hc] at k ⊢
    exact hq _ H1 G1 e1 k
  · rw [if_neg hc] at k ⊢
    exact hb H0 G0 G1 ρ σ H1 Q κ ε (R.on e1) k (fun v2 H2 G2 e2 h2 => hq v2 H2 G2 (e1.trans e2) h2) (hx.on e1)
theorem tok_not (ha : TOk K mg W ua p) : TOk K mg W (tNot ua) (tNotD p) := by
  intro H0 G0 G ρ σ H Q κ ε R h hq hx
  exact ha H0 G0 G ρ σ H _ _ ε R h (fun c H1 G1 e1 k => hq _ H1 G1 e1 k) hx
end
structure MW (X : Cx) (W : WX) (e : Expr) (δ : DT) : Prop where
  ex : ∃ t, PW X e t ∧ TOk X.K X.mg W t δ
section
variable {X : Cx} {W : WX} {a b : Expr} {da db : DE} {p q : DT} {pos : Pos} {rest : List Expr}
theorem me_one {op : BoolOp} (ha : ME X W a da) : ME X W (.BoolOp op [a] pos) da := by
  obtain ⟨t, pa, oa⟩ := ha
  exact ⟨_, pe_one pa, oa⟩
theorem me_and (ha : ME X W a da) (hb : ME X W (.BoolOp .And (b :: rest) pos) db) : ME X W (.BoolOp .And (a :: b :: rest) pos) (dAnd da db) := by
  obtain ⟨t, pa, oa⟩ := ha
  obtain ⟨u, pb, ob⟩ := hb
  exact ⟨_, pe_and pa pb, eok_and oa ob⟩
theorem me_or (ha : ME X W a da) (hb : ME X W (.BoolOp .Or (b :: rest) pos) db) : ME X W (.BoolOp .Or (a :: b :: rest) pos) (dOr da db) := by
  obtain ⟨t, pa, oa⟩ := ha
  obtain ⟨u, pb, ob⟩ := hb
  exact ⟨_, pe_or pa pb, eok_or oa ob⟩
theorem me_not (ha : ME X W a da) : ME X W (.UnaryOp .Not a pos) (dNot da) := by
  obtain ⟨t, pa, oa⟩ := ha
  exact ⟨_, pe_not pa, eok_not oa⟩
theorem mt_val (ha : ME X W a da) (he : ∀ whole, isTrue a X.env whole = (do let v ← whole; standAt a.pos; holding [v] (truthy v)) := by intro _; rfl) : MT X W a (tVal da) := by
  obtain ⟨t, pa, oa⟩ := ha
  exact ⟨_, pt_val pa he, tok_val oa⟩
theorem mt_cmp {op : CmpOp} {r : R2} {k : Rv → Rv → (Rv → Prop) → (Str → Prop) → Prop} (ho : OpR X (compareOp op) r) (hr : Op2 X.K r k) (ha : ME X W a da) (hb : ME X W b db) (hm : behindInMarks op b = false) : MT X W (.Compare a [op] [b] pos) (tVal (dBin k da db)) := by
  obtain ⟨ta, pa, oa⟩ := ha
  obtain ⟨tb, pb, ob⟩ := hb
  exact ⟨_, pt_cmpR ho pa pb hm, tok_val (eok_bin oa ob hr)⟩
theorem mt_lt (ha : ME X W a da) (hb : ME X W b db) : MT X W (.Compare a [.Lt] [b] pos) (tVal (dLt da db)) := mt_cmp op_lt (op2_I0 rdB) ha hb (nomark _)
theorem mt_le (ha : ME X W a da) (hb : ME X W b db) : MT X W (.Compare a [.LtE] [b] pos) (tVal (dLe da db)) := mt_cmp op_le (op2_I0 rdB) ha hb (nomark _)
theorem mt_gt (ha : ME X W a da) (hb : ME X W b db) : MT X W (.Compare a [.Gt] [b] pos) (tVal (dGt da db)) := mt_cmp op_gt (op2_I0 rdB) ha hb (nomark _)
theorem mt_ge (ha : ME X W a da) (hb : ME X W b db) : MT X W (.Compare a [.GtE] [b] pos) (tVal (dGe da db)) := mt_cmp op_ge (op2_I0 rdB) ha hb (nomark _)
def dEq := dBin kEq
def dNe := dBin kNe
theorem me_eq (hu : X.A.units + 64 < cLine) (ha : ME X W a da) (hb : ME X W b db) : ME X W (.Compare a [.Eq] [b] pos) (dEq da db) := me_cmp (op_eqD hu) op2_eq ha hb (nomark _)
theorem me_ne (hu : X.A.units + 64 < cLine) (ha : ME X W a da) (hb : ME X W b db) : ME X W (.Compare a [.NotEq] [b] pos) (dNe da db) := me_cmp (op_neD hu) op2_ne ha hb (nomark _)
theorem mt_eq (hu : X.A.units + 64 < cLine) (ha : ME X W a da) (hb : ME X W b db) : MT X W (.Compare a [.Eq] [b] pos) (tVal (dEq da db)) := mt_cmp (op_eqD hu) op2_eq ha hb (nomark _)
theorem mt_ne (hu : X.A.units + 64 < cLine) (ha : ME X W a da) (hb : ME X W b db) : MT X W (.Compare a [.NotEq] [b] pos) (tVal (dNe da db)) := mt_cmp (op_neD hu) op2_ne ha hb (nomark _)
theorem mw_and1 (ha : MT X W a p) : MW X W (.BoolOp .And [a] pos) p := by
  obtain ⟨t, pa, oa⟩ := ha
  exact ⟨_, pw_and1 pa, oa⟩
theorem mw_or1 (ha : MT X W a p) : MW X W (.BoolOp .Or [a] pos) p := by
  obtain ⟨t, pa, oa⟩ := ha
  exact ⟨_, pw_or1 pa, oa⟩
theorem mw_and (ha : MT X W a p) (hb : MW X W (.BoolOp .And (b :: rest) pos) q) : MW X W (.BoolOp .And (a :: b :: rest) pos) (tAndD p q) := by
  obtain ⟨t, pa, oa⟩ := ha
  obtain ⟨u, pb, ob⟩ := hb
  exact ⟨_, pw_and pa pb, tok_and oa ob⟩
theorem mw_or (ha : MT X W a p) (hb : MW X W (.BoolOp .Or (b :: rest) pos) q) : MW X W (.BoolOp .Or (a :: b :: rest) pos) (tOrD p q) := by
  obtain ⟨t, pa, oa⟩ := ha
  obtain ⟨u, pb, ob⟩ := hb
  exact ⟨_, pw_or pa pb, tok_or oa ob⟩
theorem MW.mt {e : Expr} (h : MW X W e p) : MT X W e p := by
  obtain ⟨t, pa, oa⟩ := h
  exact ⟨_, pa.pt, oa⟩
theorem mt_not (ha : MT X W a p) : MT X W (.UnaryOp .Not a pos) (tNotD p) := by
  obtain ⟨t, pa, oa⟩ := ha
  exact ⟨_, pt_not pa, tok_not oa⟩
end

/-! ### arguments, displays -/
def aNil : DA := fun _ κ _ => κ []
def aCons (a : DE) (b : DA) : DA := fun ρ κ ε => a ρ (fun x => b ρ (fun xs => κ (x :: xs)) ε) ε
theorem RvsR.back {H0 G H H1 H' : Hp} (s : Same H H1) : ∀ {rs : List Rv} {vs : List V}, RvsR K H0 G H1 H' rs vs → RvsR K H0 G H H' rs vs
  | [], _, h => h
  | r :: rs, vs, h => by
    obtain ⟨v, w, e, a, b⟩ := h
    exact ⟨v, w, e, a.back s, RvsR.back s b⟩
theorem RvsR.on {H0 G H H1 G' H2 : Hp} (x : Ext H1 G H2 G') : ∀ {rs : List Rv} {vs : List V}, RvsR K H0 G H H1 rs vs → RvsR K H0 G' H H2 rs vs
  | [], _, h => h
  | r :: rs, vs, h => by
    obtain ⟨v, w, e, a, b⟩ := h
    exact ⟨v, w, e, a.on x, RvsR.on x b⟩
section
variable {mg : MG} {W : WX} {ta : TE} {a : DE} {t : TA} {b : DA}
theorem aok_nil : AOk K mg W tNil aNil := fun H0 G0 G ρ σ H Q κ ε R h hq hx => hq [] H G [] (Ext.refl R.ext.s) rfl h
theorem aok_cons (ha : EOk K mg W ta a) (hb : AOk K mg W t b) : AOk K mg W (tCons ta t) (aCons a b) := by
  intro H0 G0 G ρ σ H Q κ ε R h hq hx
  refine ha H0 G0 G ρ σ H _ _ ε R h (fun v H1 G1 x e1 r1 h1 => ?_) hx
  refine hb H0 G0 G1 ρ σ H1 _ _ ε (R.on e1) h1 (fun vs H2 G2 xs e2 r2 h2 => ?_) (hx.on e1)
  exact hq (v :: vs) H2 G2 (x :: xs) (e1.trans e2) ⟨v, vs, rfl, r1.on e2, r2.back e1.h⟩ h2
end
section
variable {X : Cx} {W : WX} {e : Expr} {es : List Expr} {da : DE} {db : DA}
theorem ma_nil : MA X W [] aNil := ⟨_, pa_nil, aok_nil⟩
theorem ma_cons (ha : ME X W e da) (hb : MA X W es db) (hs : starEach (e :: es) X.env = (false, eval e X.env) :: starEach es X.env := by rfl) : MA X W (e :: es) (aCons da db) := by
  obtain ⟨t, pa, oa⟩ := ha
  obtain ⟨u, pb, ob⟩ := hb
  exact ⟨_, pa_cons pa pb hs, aok_cons oa ob⟩
end
/-- values that may be kept: data, new lists -/
def frz1 : Rv → Option Dat
  | .v d => some d
  | .n ds => some (.lst ds)
  | _ => none
def frzs : List Rv → Option (List Dat)
  | [] => some []
  | r :: rs => match frz1 r, frzs rs with
    | some d, some ds => some (d :: ds)
    | _, _ => none
/-- the values are put into the part that stays -/
theorem frz1_ok {H0 G G1 H Gs H' : Hp} {r : Rv} {v : V} {d : Dat} (s1 : Same G G1) (x : Ext H Gs H' G1) (h : RvR K H0 G H H' r v) (e : frz1 r = some d) : ∃ G', Ext H Gs H' G' ∧ Same G1 G' ∧ RdD K G' d v := by
  cases r with
  | v d' => injection e with e; subst e; exact ⟨G1, x, Same.refl _, RdD.mono s1 _ _ h⟩
  | n ds =>
    injection e with e; subst e
    obtain ⟨l, vs, a, b, c, n, g⟩ := h
    cases q : G1 l with
    | none =>
      obtain ⟨y, s⟩ := x.put n b q
      refine ⟨_, y, s, ?_⟩
      unfold RdD; exact ⟨l, vs, a, sq_of upd_same, c.mono (s1.trans s)⟩
    | some o =>
      have z := x.s _ _ q
      rw [b] at z
      cases z
      refine ⟨G1, x, Same.refl _, ?_⟩
      unfold RdD; exact ⟨l, vs, a, sq_of q, c.mono s1⟩
  | b ds => exact nomatch e
  | o ds => exact nomatch e
theorem frzs_ok {H0 G H Gs H' : Hp} (x : Ext H Gs H' G) : ∀ {rs : List Rv} {vs : List V} {ds : List Dat}, RvsR K H0 G H H' rs vs → frzs rs = some ds → ∃ G', Ext H Gs H' G' ∧ Same G G' ∧ RdL K G' ds vs
  | [], vs, ds, h, e => by
    injection e with e; subst e
    exact ⟨G, x, Same.refl _, by unfold RdL; exact h⟩
  | r :: rs, vs, ds, h, e => by
    obtain ⟨v, w, rfl, h1, h2⟩ := h
    unfold frzs at e
    split at e
    · rename_i d es e1 e2
      injection e with e; subst e
      obtain ⟨G1, x1, s1, r1⟩ := frzs_ok x h2 e2
      obtain ⟨G2, x2, s2, r2⟩ := frz1_ok s1 x1 h1 e1
      exact ⟨G2, x2, s1.trans s2, RdL.cons r2 (r1.mono s2)⟩
    · exact nomatch e
def dTup (a : DA) : DE := fun ρ κ ε => a ρ (fun rs => match frzs rs with
  | some ds => Nat.ble rs.length 100000 = true ∧ κ (.v (.tup ds))
  | none => False) ε
def dLst (a : DA) : DE := fun ρ κ ε => a ρ (fun rs => match frzs rs with
  | some ds => Nat.ble rs.length 100000 = true ∧ κ (.n ds)
  | none => False) ε
theorem frzs_len : ∀ {rs : List Rv} {ds : List Dat}, frzs rs = some ds → ds.length = rs.length
  | [], ds, e => by injection e with e; subst e; rfl
  | r :: rs, ds, e => by
    unfold frzs at e
    split at e
    · rename_i d es e1 e2
      injection e with e; subst e
      rw [List.length_cons, List.length_cons, frzs_len e2]
    · exact nomatch e
theorem small_of {n : Nat} (h : Nat.ble n 100000 = true) : n ≤ sizeLine := Nat.le_trans (Nat.le_of_ble_eq_true h) (by decide)
theorem eok_tup {mg : MG} {W : WX} {t : TA} {a : DA} (ha : AOk K mg W t a) : EOk K mg W (tTup t) (dTup a) := by
  intro H0 G0 G ρ σ H Q κ ε R h hq hx
  refine ha H0 G0 G ρ σ H _ _ ε R h (fun vs H1 G1 rs e1 r1 h1 => ?_) hx
  split at h1
  · rename_i ds e
    obtain ⟨G2, x2, s2, r2⟩ := frzs_ok e1 r1 e
    refine ⟨by rw [← r2.len, frzs_len e]; exact small_of h1.1, fun p np => ?_⟩
    have y := Ext.newG (o := HO.tup vs) x2.s np
    refine hq _ _ _ (.v (.tup ds)) (x2.trans y) ?_ h1.2
    show RdD K _ _ _
    unfold RdD
    exact ⟨p, vs, rfl, upd_same, r2.mono y.g⟩
  · exact h1.elim
theorem eok_lst {mg : MG} {W : WX} {t : TA} {a : DA} (ha : AOk K mg W t a) : EOk K mg W (tLst t) (dLst a) := by
  intro H0 G0 G ρ σ H Q κ ε R h hq hx
  refine ha H0 G0 G ρ σ H _ _ ε R h (fun vs H1 G1 rs e1 r1 h1 => ?_) hx
  split at h1
  · rename_i ds e
    obtain ⟨G2, x2, s2, r2⟩ := frzs_ok e1 r1 e
    refine ⟨by rw [← r2.len, frzs_len e]; exact small_of h1.1, fun p np => ?_⟩
    have y := Ext.newH (o := HO.lst vs) x2.s np
    exact hq _ _ _ (.n ds) (x2.trans y) ⟨p, vs, rfl, upd_same, r2, x2.h.free np, x2.s.free np⟩ h1.2
  · exact h1.elim
section
variable {X : Cx} {W : WX} {es : List Expr} {da : DA} {pos : Pos}
theorem me_tup {k : Nat} (h : MA X W es da) : ME X W (.Tuple es k pos) (dTup da) := by
  obtain ⟨t, pa, oa⟩ := h
  exact ⟨_, pe_tup pa, eok_tup oa⟩
theorem me_lst (h : MA X W es da) : ME X W (.List es pos) (dLst da) := by
  obtain ⟨t, pa, oa⟩ := h
  exact ⟨_, pe_lst pa, eok_lst oa⟩
end

/-! ### places, slices -/
def kIx : Rv → Rv → (Rv → Prop) → (Str → Prop) → Prop := fun x y κ _ => asQ x fun ds => asI y fun i => onS (atI ds i) fun d => κ (.v d)
def rIxLT (K : PySem.W.Frag) : R2 := fun x y H Q => rIxL K x y H Q ∨ rIxT K x y H Q
theorem RdL.at {G : Hp} {ds : List Dat} {vs : List V} {i : Int} {d : Dat} (h : RdL K G ds vs) (e : atI ds i = some d) : ∃ v, atI vs i = some v ∧ RdD K G d v := by
  unfold atI at e ⊢
  rw [← h.len]
  cases q : ixN ds.length i with
  | none => rw [q] at e; exact nomatch e
  | some j =>
    rw [q] at e
    exact h.get e
theorem op2_ix {K : PySem.W.Frag} : Op2 K (rIxLT K) kIx := by
  intro H0 G Hs H x y v u Q κ ε s s0 sh rx ry h q
  obtain ⟨ds, e, h1⟩ := asQ.of h
  obtain ⟨i, rfl, h2⟩ := asI.of h1
  have ry : RdD K G (.int i) u := ry
  unfold RdD at ry
  obtain ⟨d, q2, h2⟩ := onS.of h2
  · rcases e with e | e
    · obtain ⟨l, vs, rfl, b, c⟩ := rx.lst s s0 e
      obtain ⟨w, e1, e2⟩ := c.at q2
      exact .inl ⟨l, vs, i, w, rfl, ry, b, e1, q w H G (.v d) (Ext.refl s) e2 h2⟩
    · cases x with
      | v d0 =>
        have e : d0 = .tup ds := e
        subst e
        have rx : RdD K G (.tup ds) v := rx
        unfold RdD at rx
        obtain ⟨l, vs, rfl, b, c⟩ := rx
        obtain ⟨w, e1, e2⟩ := c.at q2
        exact .inr ⟨l, vs, i, w, rfl, ry, SqT.of (s _ _ b), e1, q w H G (.v d) (Ext.refl s) e2 h2⟩
      | n _ => exact nomatch e
      | b _ => exact nomatch e
      | o _ => exact nomatch e
section
variable {X : Cx} {W : WX} {a b : Expr} {da db : DE} {pos p2 : Pos}
def dIx := dBin kIx
theorem me_ix (ha : ME X W a da) (hb : ME X W b db) (hs : PlainIx b := by exact fun _ _ => rfl) : ME X W (.Subscript a b pos) (dIx da db) := by
  obtain ⟨ta, pa, oa⟩ := ha
  obtain ⟨tb, pb, ob⟩ := hb
  exact ⟨_, pe_ix (ix_list.or ix_tup) pa pb hs, eok_bin oa ob op2_ix⟩
end
abbrev DO := List Sl → (Option Int → Prop) → (Str → Prop) → Prop
def OOk (K : PySem.W.Frag) (mg : MG) (W : WX) (t : TO) (δ : DO) : Prop := ∀ H0 G0 G ρ σ H (Q : Option Int → Hp → Prop) κ ε, Rel K H0 G0 G ρ σ H → δ ρ κ ε →
  (∀ b H' G', Ext H G H' G' → κ b → Q b H') → XOk mg W H G σ ε → t σ H Q
structure MO (X : Cx) (W : WX) (e : Option Expr) (δ : DO) : Prop where
  ex : ∃ t, PO X e t ∧ OOk X.K X.mg W t δ
def oNone : DO := fun _ κ _ => κ none
def oSome (a : DE) : DO := fun ρ κ ε => a ρ (fun x => asI x fun i => κ (some i)) ε
section
variable {X : Cx} {W : WX} {a : Expr} {lo hi : Option Expr} {da : DE} {dl dh : DO} {pos p2 : Pos}
theorem mo_none : MO X W none oNone := ⟨_, po_none, fun H0 G0 G ρ σ H Q κ ε R h hq hx => hq _ H G (Ext.refl R.ext.s) h⟩
theorem mo_some (ha : ME X W a da) : MO X W (some a) (oSome da) := by
  obtain ⟨ta, pa, oa⟩ := ha
  refine ⟨_, po_some pa, fun H0 G0 G ρ σ H Q κ ε R h hq hx => ?_⟩
  refine oa H0 G0 G ρ σ H _ _ ε R h (fun v H1 G1 x e1 r1 h1 => ?_) hx
  obtain ⟨i, rfl, k⟩ := asI.of h1
  have r1 : RdD X.K G1 (.int i) v := r1
  unfold RdD at r1
  exact ⟨i, r1, hq _ H1 G1 e1 k⟩
def cutD (xs : List Dat) (lo hi : Option Int) : List Dat := (xs.drop (HT.sIx xs.length 0 lo)).take (HT.sIx xs.length xs.length hi - HT.sIx xs.length 0 lo)
theorem RdL.cut {G : Hp} {ds : List Dat} {vs : List V} (lo hi : Option Int) (h : RdL K G ds vs) : RdL K G (cutD ds lo hi) (cutV vs lo hi) := by
  unfold cutD cutV
  rw [← h.len]
  exact (h.drop _).take _
/-- a[lo:hi] of a list -/
def dCut (a : DE) (l h : DO) : DE := fun ρ κ ε => a ρ (fun x => l ρ (fun lo => h ρ (fun hi => match x.dat with
  | .lst ds => κ (.n (cutD ds lo hi))
  | .tup ds => κ (.v (.tup (cutD ds lo hi)))
  | _ => False) ε) ε) ε
theorem cut_whole {α : Type} {xs : List α} {n : Nat} (h : xs.length = n) : (xs.drop 0).take (n - 0) = xs := by
  rw [List.drop_zero, Nat.sub_zero, List.take_of_length_le (by omega)]
theorem Rv.tup_of {x : Rv} {ds : List Dat} (e : x.dat = .tup ds) : x = .v (.tup ds) := by
  cases x with
  | v d => have e : d = .tup ds := e; rw [e]
  | n _ => exact nomatch e
  | b _ => exact nomatch e
  | o _ => exact nomatch e
theorem rvT {H0 G Hs H : Hp} {ds : List Dat} {v : V} (s : Same G H) (h : RvR K H0 G Hs H (.v (.tup ds)) v) : ∃ a vs, v = .ref a ∧ SqT K H a vs ∧ RdL K G ds vs := by
  have h : RdD K G (.tup ds) v := h
  unfold RdD at h
  obtain ⟨a, vs, rfl, g, r⟩ := h
  exact ⟨a, vs, rfl, SqT.of (s _ _ g), r⟩
theorem me_cut (ha : ME X W a da) (hl : MO X W lo dl) (hh : MO X W hi dh) : ME X W (.Subscript a (.Slice lo hi none p2) pos) (dCut da dl dh) := by
  obtain ⟨ta, pa, oa⟩ := ha
  obtain ⟨tl, pl, ol⟩ := hl
  obtain ⟨th, ph, oh⟩ := hh
  refine ⟨_, pe_slice (sl_list.or sl_tupA) pa pl ph, fun H0 G0 G ρ σ H Q κ ε R h hq hx => ?_⟩
  refine oa H0 G0 G ρ σ H _ _ ε R h (fun v H1 G1 x e1 r1 h1 => ?_) hx
  refine ol H0 G0 G1 ρ σ H1 _ _ ε (R.on e1) h1 (fun lo H2 G2 e2 h2 => ?_) (hx.on e1)
  refine oh H0 G0 G2 ρ σ H2 _ _ ε ((R.on e1).on e2) h2 (fun hi H3 G3 e3 h3 => ?_) ((hx.on e1).on e2)
  have e4 := (e1.trans e2).trans e3
  have R4 := R.on e4
  split at h3
  · rename_i ds e
    obtain ⟨l, vs, rfl, b, c⟩ := ((r1.on e2).on e3).lst e4.s R4.ext.h e
    refine .inl ⟨l, vs, rfl, b, fun p np => ?_⟩
    have y := Ext.newH (o := HO.lst (cutV vs lo hi)) e4.s np
    exact hq _ _ _ (.n (cutD ds lo hi)) (e4.trans y) ⟨p, _, rfl, upd_same, c.cut lo hi, e4.h.free np, e4.s.free np⟩ h3
  · rename_i ds e
    obtain rfl := Rv.tup_of e
    have rx0 : RdD X.K G3 (.tup ds) v := RdD.mono (e2.trans e3).g _ _ r1
    obtain ⟨l, vs, rfl, b, c⟩ := rvT e4.s ((r1.on e2).on e3)
    refine .inr ⟨l, vs, rfl, b, fun hw => ?_, fun _ p np => ?_⟩
    · refine hq _ H3 G3 (.v (.tup (cutD ds lo hi))) e4 ?_ h3
      have : cutD ds lo hi = ds := by
        unfold cutD
        rw [c.len, hw.1, hw.2]
        exact cut_whole c.len
      rw [this]
      exact rx0
    · have y := Ext.newG (o := HO.tup (cutV vs lo hi)) e4.s np
      refine hq _ _ _ (.v (.tup (cutD ds lo hi))) (e4.trans y) ?_ h3
      show RdD X.K _ _ _
      unfold RdD
      exact ⟨p, _, rfl, upd_same, (c.cut lo hi).mono y.g⟩
  · exact h3.elim
end

/-! ### xs + ys of lists -/
theorem Inv.lstR {X : Cx} {pins : List (Addr × Obj)} {σ : L2.St} {H : Hp} {s : Shared} {l : Addr} {xs : List V} (I : Inv X pins σ H s) (hH : SqL X.K H l xs) :
    xs.length ≤ sizeLine ∧ ∃ (its : List Value) (n : Nat) (dd : Option Addr) (sl : Array (Option Value)), Vals xs its ∧ xs.length = its.length ∧ s.heap.get? l = some { cls := .type "list", dict := dd, data := .seq its.toArray n, slots := sl } := by
  obtain ⟨its, r, pl, hz⟩ := I.list hH
  obtain ⟨⟨cls, dd, data, sl⟩, ho, hc, n, hd⟩ := pl.isList
  have hc : cls = .type "list" := hc
  have hd : data = .seq its.toArray n := hd
  rw [hc, hd] at ho
  exact ⟨hz, its, n, dd, sl, r, r.length, ho⟩
def rCatR (K : PySem.W.Frag) : R2 := fun x y H Q => ∃ l b xs zs, x = .ref l ∧ y = .ref b ∧ SqL K H l xs ∧ SqL K H b zs ∧ xs.length + zs.length ≤ sizeLine ∧ ∀ p, H p = none → Q (.ref p) (upd H p (.lst (xs ++ zs)))
theorem op_catR {X : Cx} : OpR X (binaryOp .Add) (rCatR X.K) := fun pins s σ H x y v u Q I rx ry h => by
  obtain ⟨l, b, xs, zs, rfl, rfl, hH, hB, hz, q⟩ := h
  have ex : v = Value.ref l := rx
  have ey : u = Value.ref b := ry
  subst ex ey
  obtain ⟨_, its, n, dd, sl, r, hl, e⟩ := Inv.lstR I hH
  obtain ⟨_, jts, m, dd2, sl2, t, ht, f⟩ := Inv.lstR I hB
  have sz : its.toArray.size + jts.toArray.size ≤ sizeLine := by rw [List.size_toArray, List.size_toArray, ← hl, ← ht]; exact hz
  refine concat_meets (S := _) ⟨_, e, rfl⟩ ⟨_, f, rfl⟩ noFill_list_add seq_list_add PySem.F.slot_list_add PySem.F.entry_list_add
    (PySem.F.args_list_add_2 _ _) (list_addW l b its.toArray jts.toArray n m dd dd2 sl sl2 sz) ⟨e, f, ?_⟩
  rw [show its.toArray ++ jts.toArray = (its ++ jts).toArray by simp]
  exact ⟨.ref _, _, I.lnew (t' := s.toks) (r.append t) (by rw [List.length_append]; exact hz), rfl, q _ I.fresh⟩
def kCat : Rv → Rv → (Rv → Prop) → (Str → Prop) → Prop := fun x y κ _ => asL x fun ds => asL y fun es => ds.length + es.length ≤ sizeLine ∧ κ (.n (ds ++ es))
theorem op2_cat : Op2 K (rCatR K) kCat := by
  intro H0 G Hs H x y v u Q κ ε s s0 sh rx ry h q
  obtain ⟨ds, e1, h1⟩ := asL.of h
  obtain ⟨es, e2, h2, h3⟩ := asL.of h1
  obtain ⟨l, vs, rfl, b, c⟩ := rx.lst s s0 e1
  obtain ⟨m, ws, rfl, b2, c2⟩ := ry.lst s s0 e2
  refine ⟨l, m, vs, ws, rfl, rfl, b, b2, by rw [← c.len, ← c2.len]; exact h2, fun p np => ?_⟩
  exact q _ _ _ (.n (ds ++ es)) (Ext.newH s np) ⟨p, _, rfl, upd_same, c.append c2, np, s.free np⟩ h3
section
variable {X : Cx} {W : WX} {a b : Expr} {da db : DE} {pos : Pos}
def dCat := dBin kCat
theorem me_cat (ha : ME X W a da) (hb : ME X W b db) : ME X W (.BinOp a .Add b pos) (dCat da db) := me_bin op_catR op2_cat ha hb
end
end DL
namespace DL
open PySem PySem.Spec PyProof.Rows L2
variable {K : PySem.W.Frag}

/-! ### stores -/
def slOf : Rv → Option Sl
  | .v d => some (.fz d)
  | .n ds => some (.ow ds)
  | .b ds => some (.br ds)
  | .o _ => none
theorem Rel.store {H0 G0 G G' H H' : Hp} {ρ : List Sl} {σ : L2.St} {r : Rv} {v : V} {s : Sl} (R : Rel K H0 G0 G ρ σ H) (x : Ext H G H' G') (h : RvR K H0 G' H H' r v) (e : slOf r = some s) (i : Nat) :
    Rel K H0 G0 G' (ρ.set i s) (σ.set i (some v)) H' := by
  have R' := R.on x
  refine ⟨R'.ext, by rw [List.length_set, List.length_set]; exact R.len, fun j t ht => ?_, fun j k ds es l hj hk lj lk => ?_⟩
  · by_cases hij : i = j
    · subst hij
      by_cases hi : i < ρ.length
      · rw [List.getElem?_set_self hi] at ht
        rw [List.getElem?_set_self (by rw [← R.len]; exact hi)]
        cases ht
        cases r with
        | v d => injection e with e; subst e; exact ⟨v, rfl, h⟩
        | n ds =>
          injection e with e; subst e
          obtain ⟨l, vs, rfl, b, c, n, g⟩ := h
          exact ⟨l, vs, rfl, b, c, g, R.ext.h.free n⟩
        | b ds =>
          injection e with e; subst e
          obtain ⟨l, vs, rfl, b, c⟩ := h
          exact ⟨l, vs, rfl, b, c⟩
        | o ds => exact nomatch e
      · rw [List.getElem?_eq_none (by rw [List.length_set]; omega)] at ht
        exact nomatch ht
    · rw [List.getElem?_set_ne hij] at ht
      rw [List.getElem?_set_ne hij]
      exact R'.sl j t ht
  · have key : ∀ (a b : Nat) (ds es : List Dat), i = a → i ≠ b → (ρ.set i s)[a]? = some (.ow ds) → (ρ.set i s)[b]? = some (.ow es) → (σ.set i (some v))[a]? = some (some (.ref l)) → (σ.set i (some v))[b]? = some (some (.ref l)) → False := by
      intro a b ds es ea nb qa qb la lb
      subst ea
      rw [List.getElem?_set_ne nb] at qb lb
      obtain ⟨l', vs, e1, e2, _⟩ := R.sl b _ qb
      rw [lb] at e1
      cases e1
      have hi : i < ρ.length := by
        by_cases hi : i < ρ.length
        · exact hi
        · rw [List.getElem?_eq_none (by rw [List.length_set]; omega)] at qa; exact nomatch qa
      rw [List.getElem?_set_self hi] at qa
      rw [List.getElem?_set_self (by rw [← R.len]; exact hi)] at la
      cases qa
      cases la
      cases r with
      | v d => exact nomatch e
      | n ds' =>
        obtain ⟨m, ws, em, _, _, n, _⟩ := h
        cases em
        rw [e2] at n
        exact nomatch n
      | b ds' => exact nomatch e
      | o ds' => exact nomatch e
    by_cases hij : i = j
    · by_cases hik : i = k
      · rw [← hij, ← hik]
      · exact (key j k ds es hij hik hj hk lj lk).elim
    · by_cases hik : i = k
      · exact (key k j es ds hik hij hk hj lk lj).elim
      · rw [List.getElem?_set_ne hij] at hj lj
        rw [List.getElem?_set_ne hik] at hk lk
        exact R.inj j k ds es l hj hk lj lk
/-- an own list is rewritten -/
theorem Rel.write {H0 G0 G H : Hp} {ρ : List Sl} {σ : L2.St} {ds es : List Dat} {ws : List V} {l : Addr} {i : Nat} (R : Rel K H0 G0 G ρ σ H) (e : ρ[i]? = some (.ow ds)) (el : σ[i]? = some (some (.ref l))) (hw : RdL K G es ws) :
    Rel K H0 G0 G (ρ.set i (.ow es)) σ (upd H l (.lst ws)) := by
  obtain ⟨l', vs, e1, e2, e3, e4, e5⟩ := R.sl _ _ e
  rw [el] at e1
  cases e1
  have hi : i < ρ.length := by
    by_cases hi : i < ρ.length
    · exact hi
    · rw [List.getElem?_eq_none (by omega)] at e; exact nomatch e
  have same : ∀ {G' : Hp}, Same G' H → G' l = none → Same G' (upd H l (.lst ws)) := fun s n b o h => by
    rw [upd_ne (fun z => by rw [z, n] at h; exact nomatch h)]
    exact s _ _ h
  refine ⟨⟨same R.ext.h e5, R.ext.g, same R.ext.s e4, R.ext.f⟩, by rw [List.length_set]; exact R.len, fun j t ht => ?_, fun j k as bs m hj hk lj lk => ?_⟩
  · by_cases hij : i = j
    · subst hij
      rw [List.getElem?_set_self hi] at ht
      cases ht
      exact ⟨l, ws, el, upd_same, hw, e4, e5⟩
    · rw [List.getElem?_set_ne hij] at ht
      have h := R.sl j t ht
      cases t with
      | un => trivial
      | fz d => exact h
      | ow as =>
        obtain ⟨m, us, f1, f2, f3⟩ := h
        refine ⟨m, us, f1, ?_, f3⟩
        rw [upd_ne (fun z => hij (R.inj i j ds as l e ht el (by rw [f1, z])))]
        exact f2
      | br as => exact h
      | adr a => exact h
      | dc a kvs =>
        obtain ⟨f1, f2, f3, f4⟩ := h
        obtain ⟨es, ea⟩ := f2.at
        refine ⟨f1, f2.mono (Same.refl G) (fun o ho => ?_), f3, f4⟩
        rw [upd_ne (fun z => by rw [z, e2] at ea; exact nomatch ea)]
        exact ho
  · have back : ∀ (a : Nat) (as : List Dat), (ρ.set i (.ow es))[a]? = some (.ow as) → ∃ bs, ρ[a]? = some (.ow bs) := fun a as h => by
      by_cases hia : i = a
      · exact ⟨ds, by rw [← hia]; exact e⟩
      · rw [List.getElem?_set_ne hia] at h; exact ⟨as, h⟩
    obtain ⟨as', ja⟩ := back j as hj
    obtain ⟨bs', kb⟩ := back k bs hk
    exact R.inj j k as' bs' m ja kb lj lk
/-- an own list becomes data that stays -/
def frzSl (ρ : List Sl) (i : Nat) : List Sl := match ρ[i]? with
  | some (.ow ds) => ρ.set i (.fz (.lst ds))
  | _ => ρ
theorem Rel.frz {H0 G0 G H : Hp} {ρ : List Sl} {σ : L2.St} (R : Rel K H0 G0 G ρ σ H) (i : Nat) : ∃ G', Rel K H0 G0 G' (frzSl ρ i) σ H := by
  unfold frzSl
  split
  · rename_i ds e
    obtain ⟨l, vs, e1, e2, e3, e4, e5⟩ := R.sl _ _ e
    obtain ⟨x, s⟩ := R.ext.put e5 e2 e4
    have hi : i < ρ.length := by
      by_cases hi : i < ρ.length
      · exact hi
      · rw [List.getElem?_eq_none (by omega)] at e; exact nomatch e
    refine ⟨_, x, by rw [List.length_set]; exact R.len, fun j t ht => ?_, fun j k as bs m hj hk lj lk => ?_⟩
    · by_cases hij : i = j
      · subst hij
        rw [List.getElem?_set_self hi] at ht
        cases ht
        refine ⟨_, e1, ?_⟩
        unfold RdD
        exact ⟨l, vs, rfl, sq_of upd_same, e3.mono s⟩
      · rw [List.getElem?_set_ne hij] at ht
        have h := R.sl j t ht
        cases t with
        | un => trivial
        | fz d => obtain ⟨v, a, b⟩ := h; exact ⟨v, a, RdD.mono s _ _ b⟩
        | ow as =>
          obtain ⟨m, us, f1, f2, f3, f4, f5⟩ := h
          refine ⟨m, us, f1, f2, f3.mono s, ?_, f5⟩
          rw [upd_ne (fun z => hij (R.inj i j ds as l e ht e1 (by rw [f1, z])))]
          exact f4
        | br as => obtain ⟨m, us, a, b, c⟩ := h; exact ⟨m, us, a, b, c.mono s⟩
        | adr a => exact h
        | dc a kvs =>
          obtain ⟨f1, f2, f3, f4⟩ := h
          obtain ⟨es, ea⟩ := f2.at
          refine ⟨f1, f2.mono s fun o ho => ho, ?_, f4⟩
          rw [upd_ne (fun z => by rw [z, e2] at ea; exact nomatch ea)]
          exact f3
    · have back : ∀ (a : Nat) (as : List Dat), (ρ.set i (.fz (.lst ds)))[a]? = some (.ow as) → ρ[a]? = some (.ow as) := fun a as h => by
        by_cases hia : i = a
        · subst hia; rw [List.getElem?_set_self hi] at h; exact nomatch h
        · rw [List.getElem?_set_ne hia] at h; exact h
      exact R.inj j k as bs m (back _ _ hj) (back _ _ hk) lj lk
  · exact ⟨G, R⟩
/-- forgotten slots -/
theorem Rel.weak {H0 G0 G H : Hp} {ρ ρ' : List Sl} {σ σ' : L2.St} (R : Rel K H0 G0 G ρ σ H) (hl : ρ'.length = ρ.length) (hs : σ'.length = σ.length) (w : ∀ (i : Nat) (s : Sl), ρ'[i]? = some s → s = Sl.un ∨ (ρ[i]? = some s ∧ σ'[i]? = σ[i]?)) : Rel K H0 G0 G ρ' σ' H := by
  refine ⟨R.ext, by rw [hl, hs]; exact R.len, fun i s h => ?_, fun i j ds es l hi hj li lj => ?_⟩
  · rcases w i s h with rfl | ⟨a, b⟩
    · trivial
    · rw [b]; exact R.sl i s a
  · rcases w i _ hi with h | ⟨a, b⟩
    · exact nomatch h
    · rcases w j _ hj with h | ⟨c, d⟩
      · exact nomatch h
      · exact R.inj i j ds es l a c (by rw [← b]; exact li) (by rw [← d]; exact lj)

/-! ### targets -/
abbrev DG := Rv → List Sl → (List Sl → Prop) → Prop
/-- only these slots are touched -/
def Tch (is : List Nat) (σ σ' : L2.St) : Prop := σ'.length = σ.length ∧ ∀ j, j ∉ is → σ'[j]? = σ[j]?
theorem Tch.refl (σ : L2.St) : Tch [] σ σ := ⟨rfl, fun _ _ => rfl⟩
theorem Tch.trans {is js : List Nat} {σ σ1 σ2 : L2.St} (a : Tch is σ σ1) (b : Tch js σ1 σ2) : Tch (is ++ js) σ σ2 :=
  ⟨b.1.trans a.1, fun j h => by rw [b.2 j (fun z => h (List.mem_append_right _ z)), a.2 j (fun z => h (List.mem_append_left _ z))]⟩
theorem Tch.set (σ : L2.St) (i : Nat) (v : Option V) : Tch [i] σ (σ.set i v) := ⟨by rw [List.length_set], fun j h => by rw [List.getElem?_set_ne (fun z => h (by rw [z]; exact List.mem_singleton.mpr rfl))]⟩
def GOk (K : PySem.W.Frag) (t : TG) (is : List Nat) (γ : DG) : Prop := ∀ H0 G0 Gs G ρ σ Hs H r v (Q : L2.St → Hp → Prop) (κ : List Sl → Prop), Rel K H0 G0 Gs ρ σ Hs → Ext Hs Gs H G → RvR K H0 G Hs H r v → γ r ρ κ →
  (∀ ρ' σ', Rel K H0 G0 G ρ' σ' H → Tch is σ σ' → κ ρ' → Q σ' H) → t v σ H Q
def GsOk (K : PySem.W.Frag) (t : TGs) (is : List Nat) (γ : List Dat → List Sl → (List Sl → Prop) → Prop) : Prop := ∀ H0 G0 G ρ σ H ds vs (Q : L2.St → Hp → Prop) (κ : List Sl → Prop), Rel K H0 G0 G ρ σ H → RdL K G ds vs → γ ds ρ κ →
  (∀ ρ' σ', Rel K H0 G0 G ρ' σ' H → Tch is σ σ' → κ ρ' → Q σ' H) → t vs σ H Q
structure MG1 (X : Cx) (e : Expr) (is : List Nat) (γ : DG) : Prop where
  ex : ∃ t, PG X e t ∧ GOk X.K t is γ
structure MGs (X : Cx) (es : List Expr) (is : List Nat) (γ : List Dat → List Sl → (List Sl → Prop) → Prop) : Prop where
  ex : ∃ t, PGs X es t ∧ GsOk X.K t is γ
def gN (i : Nat) : DG := fun r ρ κ => match slOf r with
  | some s => κ (ρ.set i s)
  | none => False
def gsNil : List Dat → List Sl → (List Sl → Prop) → Prop := fun ds ρ κ => match ds with
  | [] => κ ρ
  | _ => False
def gsCons (g : DG) (h : List Dat → List Sl → (List Sl → Prop) → Prop) : List Dat → List Sl → (List Sl → Prop) → Prop := fun ds ρ κ => match ds with
  | d :: es => g (.v d) ρ (fun ρ' => h es ρ' κ)
  | [] => False
def gT (n : Nat) (h : List Dat → List Sl → (List Sl → Prop) → Prop) : DG := fun r ρ κ => asQ r fun ds => ds.length = n ∧ h ds ρ κ
theorem pg_or {X : Cx} {e : Expr} {t u : TG} (h : PG X e t) (h' : PG X e u) : PG X e (fun v σ H Q => t v σ H Q ∨ u v σ H Q) :=
  ⟨fun pins s σ H v w Q I r q => q.elim (fun q => h.run pins s σ H v w Q I r q) fun q => h'.run pins s σ H v w Q I r q⟩
def gL (n : Nat) (h : List Dat → List Sl → (List Sl → Prop) → Prop) : DG := fun r ρ κ => asL r fun ds => ds.length = n ∧ h ds ρ κ
section
variable {X : Cx} {e : Expr} {es : List Expr} {g : DG} {h : List Dat → List Sl → (List Sl → Prop) → Prop} {pos : Pos}
theorem mg_name (i : Nat) {x : Str} (hN : X.N.Nodup) (hi : X.N[i]? = some x := by rfl) (hx : Loc X.env.scope x := by first | exact Or.inl rfl | exact Or.inr rfl) (hf : X.fn x = true ∨ X.env.scope.names.lookup x = some .local := by first | exact .inl rfl | exact .inr rfl | assumption) : MG1 X (.Name x pos) [i] (gN i) := by
  refine ⟨_, pg_name hN hi hx hf, fun H0 G0 Gs G ρ σ Hs H r v Q κ R x hr hg hq => ?_⟩
  unfold gN at hg
  split at hg
  · rename_i s e
    exact hq _ _ (R.store x hr e i) (Tch.set _ _ _) hg
  · exact hg.elim
theorem mgs_nil : MGs X [] [] gsNil := by
  refine ⟨_, pgs_nil, fun H0 G0 G ρ σ H ds vs Q κ R hr hg hq => ?_⟩
  cases ds with
  | nil => unfold RdL at hr; exact ⟨hr, hq _ _ R (Tch.refl _) hg⟩
  | cons d ds => exact hg.elim
theorem mgs_cons {is js : List Nat} (h1 : MG1 X e is g) (h2 : MGs X es js h) (hs : (assignEach (e :: es) X.env).map (·.2) = assign e X.env :: (assignEach es X.env).map (·.2) := by rfl) : MGs X (e :: es) (is ++ js) (gsCons g h) := by
  obtain ⟨t, pg, og⟩ := h1
  obtain ⟨u, pu, ou⟩ := h2
  refine ⟨_, pgs_cons pg pu hs, fun H0 G0 G ρ σ H ds vs Q κ R hr hg hq => ?_⟩
  cases ds with
  | nil => exact hg.elim
  | cons d ds =>
    unfold RdL at hr
    obtain ⟨v, r, rfl, h1, h2⟩ := hr
    refine ⟨v, r, rfl, ?_⟩
    exact og H0 G0 G G ρ σ H H (.v d) v _ _ R (Ext.refl R.ext.s) h1 hg fun ρ' σ' R' t' h' => ou H0 G0 G ρ' σ' H ds r Q κ R' h2 h' fun ρ2 σ2 R2 t2 h3 => hq ρ2 σ2 R2 (t'.trans t2) h3
theorem mg_tup {k n : Nat} {is : List Nat} (hc : X.calm = true) (hh : MGs X es is h) (hn : (assignEach es X.env).length = n := by rfl) (hst : (assignEach es X.env).findIdx? (·.1) = none := by rfl) : MG1 X (.Tuple es k pos) is (gT n h) := by
  obtain ⟨t, pg, og⟩ := hh
  refine ⟨_, pg_or (pg_tup hc pg hn hst) (pg_lst hc pg hn hst), fun H0 G0 Gs G ρ σ Hs H r v Q κ R x hr hg hq => ?_⟩
  obtain ⟨ds, e, h1, h2⟩ := asQ.of hg
  rcases e with e | e
  · obtain ⟨l, vs, rfl, b, c⟩ := hr.lst x.s (R.on x).ext.h e
    exact .inr ⟨l, vs, rfl, b, by rw [← c.len]; exact h1, og H0 G0 G ρ σ H ds vs Q κ (R.on x) c h2 hq⟩
  · obtain rfl := Rv.tup_of e
    obtain ⟨a, vs, rfl, b, c⟩ := rvT x.s hr
    exact .inl ⟨a, vs, rfl, b, by rw [← c.len]; exact h1, og H0 G0 G ρ σ H ds vs Q κ (R.on x) c h2 hq⟩
theorem mg_lst {k n : Nat} {is : List Nat} (hc : X.calm = true) (hh : MGs X es is h) (hn : (assignEach es X.env).length = n := by rfl) (hst : (assignEach es X.env).findIdx? (·.1) = none := by rfl) : MG1 X (.Tuple es k pos) is (gL n h) := by
  obtain ⟨t, pg, og⟩ := hh
  refine ⟨_, pg_lst hc pg hn hst, fun H0 G0 Gs G ρ σ Hs H r v Q κ R x hr hg hq => ?_⟩
  obtain ⟨ds, e, h1, h2⟩ := asL.of hg
  obtain ⟨l, vs, rfl, b, c⟩ := hr.lst x.s (R.on x).ext.h e
  exact ⟨l, vs, rfl, b, by rw [← c.len]; exact h1, og H0 G0 G ρ σ H ds vs Q κ (R.on x) c h2 hq⟩
end

/-! ### small statements -/
def sNil : DS := fun κ ρ => κ.nx ρ
def sSeq (a b : DS) : DS := fun κ ρ => a { κ with nx := b κ } ρ
def sDrop (a : DE) : DS := fun κ ρ => a ρ (fun _ => κ.nx ρ) (fun nm => κ.ex nm ρ)
def sAsg (a : DE) (g : DG) : DS := fun κ ρ => a ρ (fun r => g r ρ κ.nx) (fun nm => κ.ex nm ρ)
def sRet (a : DE) : DS := fun κ ρ => a ρ (fun r => retOk r = true ∧ κ.rt r) (fun nm => κ.ex nm ρ)
/-- return x -/
def sRetV (i : Nat) : DS := fun κ ρ => match ρ[i]? with
  | some (.fz d) => κ.rt (.v d)
  | some (.ow ds) => κ.rt (.n ds)
  | _ => False
def sRetN : DS := fun κ _ => κ.rt (.v .non)
def sIf (c : DT) (a b : DS) : DS := fun κ ρ => c ρ (fun k => if k = true then a κ ρ else b κ ρ) (fun nm => κ.ex nm ρ)
def sBrk : DS := fun κ ρ => κ.bk ρ
def sCnt : DS := fun κ ρ => κ.ct ρ
/-- first x becomes data that stays -/
def sFrz (i : Nat) (a : DS) : DS := fun κ ρ => a κ (frzSl ρ i)
/-- x op= e -/
def sAug (i : Nat) (a : DE) (k : Rv → Rv → (Rv → Prop) → (Str → Prop) → Prop) : DS := fun κ ρ => dVar i ρ (fun x => a ρ (fun y => k x y (fun z => gN i z ρ κ.nx) (fun nm => κ.ex nm ρ)) (fun nm => κ.ex nm ρ)) (fun nm => κ.ex nm ρ)
theorem Ext.trans' {H0 G0 G H H' G' : Hp} (a : Ext H0 G0 H G) (b : Ext H0 G H' G') : Ext H0 G0 H' G' := ⟨b.h, a.g.trans b.g, b.s, fun x hx hg => b.f x hx (a.f x hx hg)⟩
theorem Rel.sub {H0 G0 G H G' H' : Hp} {ρ ρ' : List Sl} {σ σ' : L2.St} (R : Rel K H0 G0 G ρ σ H) (R' : Rel K H0 G G' ρ' σ' H') : Rel K H0 G0 G' ρ' σ' H' := ⟨R.ext.trans' R'.ext, R'.len, R'.sl, R'.inj⟩
theorem Rel.here {H0 G0 G H : Hp} {ρ : List Sl} {σ : L2.St} (R : Rel K H0 G0 G ρ σ H) : Rel K H0 G G ρ σ H := ⟨⟨R.ext.h, Same.refl _, R.ext.s, fun _ _ h => h⟩, R.len, R.sl, R.inj⟩
theorem EndsOk.sub {mg : MG} {W : WX} {H0 G0 G H : Hp} {ρ : List Sl} {σ : L2.St} {D : Ends} {κ : DEnds} (E : EndsOk K mg W H0 G0 D κ) (R : Rel K H0 G0 G ρ σ H) : EndsOk K mg W H0 G D κ :=
  ⟨fun ρ' σ' H' G' R' k => E.nx ρ' σ' H' G' (R.sub R') k, fun ρ' σ' H' G' R' k => E.bk ρ' σ' H' G' (R.sub R') k,
   fun ρ' σ' H' G' R' k => E.ct ρ' σ' H' G' (R.sub R') k, fun v H' G' r x h o k => E.rt v H' G' r (R.ext.trans' x) h o k,
   fun nm cls ρ' σ' H' G' R' h k => E.ex nm cls ρ' σ' H' G' (R.sub R') h k⟩
/-- Ext from a state to a later one of the same entry -/
theorem Rel.ret {H0 G0 G H H' G' : Hp} {ρ : List Sl} {σ : L2.St} (R : Rel K H0 G0 G ρ σ H) (x : Ext H G H' G') : Ext H0 G0 H' G' := R.ext.trans x
theorem RvR.ret {H0 G' H H' : Hp} {r : Rv} {v : V} (s : Same H0 H) (h : RvR K H0 G' H H' r v) : RvR K H0 G' H0 H' r v := h.back s
theorem dVar_ok {H0 G0 G H : Hp} {ρ : List Sl} {σ : L2.St} {i : Nat} {κ : Rv → Prop} {ε : Str → Prop} (R : Rel K H0 G0 G ρ σ H) (h : dVar i ρ κ ε) : ∃ v r, σ[i]? = some (some v) ∧ RvR K H0 G H H r v ∧ κ r := by
  unfold dVar at h
  split at h
  · rename_i d e
    obtain ⟨v, e1, e2⟩ := R.sl _ _ e
    exact ⟨v, .v d, e1, e2, h⟩
  · rename_i d e
    obtain ⟨l, vs, e1, e2, e3, e4, e5⟩ := R.sl _ _ e
    exact ⟨.ref l, .o d, e1, ⟨l, vs, rfl, e2, e3⟩, h⟩
  · rename_i d e
    obtain ⟨l, vs, e1, e2, e3⟩ := R.sl _ _ e
    exact ⟨.ref l, .b d, e1, ⟨l, vs, rfl, e2, e3⟩, h⟩
  · exact h.elim
section
variable {X : Cx} {W : WX} {st : Stmt} {rest : List Stmt} {e tg : Expr} {a b : DS} {d : DE} {g : DG} {p : DT} {pos : Pos}
theorem mss_nil : MSs X W [] sNil := ⟨_, pss_nil, fun H0 G0 G ρ σ H D κ R h E => E.nx ρ σ H G R h⟩
theorem mss_cons (h1 : MS X W st a) (h2 : MSs X W rest b) : MSs X W (st :: rest) (sSeq a b) := by
  obtain ⟨t, pa, oa⟩ := h1
  obtain ⟨u, pb, ob⟩ := h2
  refine ⟨_, pss_cons pa pb, fun H0 G0 G ρ σ H D κ R h E => ?_⟩
  exact oa H0 G0 G ρ σ H _ _ R h ⟨fun ρ' σ' H' G' R' k => ob H0 G0 G' ρ' σ' H' D κ R' k E, E.bk, E.ct, E.rt, E.ex⟩
theorem mss_one (h1 : MS X W st a) : MSs X W [st] a := by
  obtain ⟨t, pa, oa⟩ := h1
  exact ⟨_, pss_one pa, oa⟩
theorem ms_drop (h : ME X W e d) (hs : swapsWith e none pos.line X.env = pure false := by rfl) : MS X W (.Expr e pos) (sDrop d) := by
  obtain ⟨t, pa, oa⟩ := h
  refine ⟨_, ps_expr pa hs, fun H0 G0 G ρ σ H D κ R h E => ?_⟩
  exact oa H0 G0 G ρ σ H _ _ _ R h (fun v H' G' r x hr k => E.nx ρ σ H' G' (R.on x) k) (E.xok R)
theorem ms_asg {is : List Nat} (h : ME X W e d) (hg : MG1 X tg is g) (hs : swapsWithSole [tg] e pos.line X.env = pure false := by rfl) (hw : swappedStores [tg] e X.env = pure none := by rfl) (h1 : (assignEach [tg] X.env).map (·.2) = [assign tg X.env] := by rfl) : MS X W (.Assign [tg] e pos) (sAsg d g) := by
  obtain ⟨t, pa, oa⟩ := h
  obtain ⟨u, pg, og⟩ := hg
  refine ⟨_, ps_asg pa pg hs hw h1, fun H0 G0 G ρ σ H D κ R h E => ?_⟩
  exact oa H0 G0 G ρ σ H _ _ _ R h (fun v H' G' r x hr k => og H0 G0 G G' ρ σ H H' r v _ _ R x hr k fun ρ' σ' R' _ k' => E.nx ρ' σ' H' G' R' k') (E.xok R)
theorem ms_set (i : Nat) {x : Str} {pos' : Pos} (hN : X.N.Nodup) (h : ME X W e d) (hi : X.N[i]? = some x := by rfl) (hx : Loc X.env.scope x := by first | exact Or.inl rfl | exact Or.inr rfl)
    (hs : swapsWith e (some (.Name x pos')) pos.line X.env = pure false := by rfl) (hf : X.fn x = true ∨ X.env.scope.names.lookup x = some .local := by first | exact .inl rfl | exact .inr rfl | assumption) : MS X W (.Assign [.Name x pos'] e pos) (sAsg d (gN i)) := by
  obtain ⟨t, pa, oa⟩ := h
  obtain ⟨u, pg, og⟩ := mg_name (pos := pos') i hN hi hx hf
  refine ⟨_, ps_set hN hi hx pa hs hf, fun H0 G0 G ρ σ H D κ R h E => ?_⟩
  refine oa H0 G0 G ρ σ H _ _ _ R h (fun v H' G' r x hr k => ?_) (E.xok R)
  unfold gN at k
  split at k
  · rename_i s e
    exact E.nx _ _ _ _ (R.store x hr e i) k
  · exact k.elim
theorem ms_ret (h : ME X W e d) : MS X W (.Return (some e) pos) (sRet d) := by
  obtain ⟨t, pa, oa⟩ := h
  refine ⟨_, ps_ret pa, fun H0 G0 G ρ σ H D κ R h E => ?_⟩
  exact oa H0 G0 G ρ σ H _ _ _ R h (fun v H' G' r x hr k => E.rt v H' G' r (R.ret x) (RvR.ret (G' := G') R.ext.h hr) k.1 k.2) (E.xok R)
theorem ms_retV (i : Nat) {x : Str} {p2 : Pos} (hN : X.N[i]? = some x := by rfl) (hv : Vis X.env.scope x := by first | exact Or.inl rfl | exact Or.inr (Or.inl rfl) | exact Or.inr (Or.inr rfl)) (hd : (x == ("__debug__" : Str)) = false := by decide)
    (hcd : (x == ("__classdict__" : Str)) = false := by decide) : MS X W (.Return (some (.Name x p2)) pos) (sRetV i) := by
  refine ⟨_, ps_ret (pe_var hN hv hd hcd), fun H0 G0 G ρ σ H D κ R h E => ?_⟩
  unfold sRetV at h
  split at h
  · rename_i d e
    obtain ⟨v, e1, e2⟩ := R.sl _ _ e
    exact ⟨v, e1, E.rt v H G (.v d) R.ext e2 rfl h⟩
  · rename_i d e
    obtain ⟨l, vs, e1, e2, e3, e4, e5⟩ := R.sl _ _ e
    exact ⟨.ref l, e1, E.rt _ H G (.n d) R.ext ⟨l, vs, rfl, e2, e3, e5, e4⟩ rfl h⟩
  · exact h.elim
theorem ms_retN : MS X W (.Return none pos) sRetN := ⟨_, ps_retN, fun H0 G0 G ρ σ H D κ R h E => E.rt _ H G (.v .non) R.ext (by show RdD X.K _ _ _; unfold RdD; rfl) rfl h⟩
theorem ms_if {c : Expr} {xs ys : List Stmt} (hc : MT X W c p) (ha : MSs X W xs a) (hb : MSs X W ys b) : MS X W (.If c xs ys pos) (sIf p a b) := by
  obtain ⟨t, pc, oc⟩ := hc
  obtain ⟨u, pa, oa⟩ := ha
  obtain ⟨w, pb, ob⟩ := hb
  refine ⟨_, ps_if pc pa pb, fun H0 G0 G ρ σ H D κ R h E => ?_⟩
  refine oc H0 G0 G ρ σ H _ _ _ R h (fun k H' G' x hk => ?_) (E.xok R)
  have R' := R.on x
  by_cases hkk : k = true
  · rw [if_pos hkk] at hk ⊢
    exact oa H0 G0 G' ρ σ H' D κ R' hk E
  · rw [if_neg hkk] at hk ⊢
    exact ob H0 G0 G' ρ σ H' D κ R' hk E
theorem ms_pass : MS X W (.Pass pos) sNil := ⟨_, ps_pass, fun H0 G0 G ρ σ H D κ R h E => E.nx ρ σ H G R h⟩
theorem ms_break : MS X W (.Break pos) sBrk := ⟨_, ps_break, fun H0 G0 G ρ σ H D κ R h E => E.bk ρ σ H G R h⟩
theorem ms_continue : MS X W (.Continue pos) sCnt := ⟨_, ps_continue, fun H0 G0 G ρ σ H D κ R h E => E.ct ρ σ H G R h⟩
theorem ms_frz (i : Nat) (h : MS X W st a) : MS X W st (sFrz i a) := by
  obtain ⟨t, pa, oa⟩ := h
  refine ⟨t, pa, fun H0 G0 G ρ σ H D κ R h E => ?_⟩
  obtain ⟨G', R'⟩ := R.frz i
  exact oa H0 G0 G' _ σ H D κ R' h E
theorem mss_frz {sts : List Stmt} (i : Nat) (h : MSs X W sts a) : MSs X W sts (sFrz i a) := by
  obtain ⟨t, pa, oa⟩ := h
  refine ⟨t, pa, fun H0 G0 G ρ σ H D κ R h E => ?_⟩
  obtain ⟨G', R'⟩ := R.frz i
  exact oa H0 G0 G' _ σ H D κ R' h E
theorem ms_aug (i : Nat) {x : Str} {op : Operator} {r : R2} {k : Rv → Rv → (Rv → Prop) → (Str → Prop) → Prop} {pos' : Pos} (ho : OpR X (inplaceOp op) r) (hr : Op2 X.K r k) (hN : X.N.Nodup) (h : ME X W e d) (hi : X.N[i]? = some x := by rfl) (hx : Loc X.env.scope x := by first | exact Or.inl rfl | exact Or.inr rfl)
    (hf : X.fn x = true ∨ X.env.scope.names.lookup x = some .local := by first | exact .inl rfl | exact .inr rfl | assumption) : MS X W (.AugAssign (.Name x pos') op e pos) (sAug i d k) := by
  obtain ⟨t, pa, oa⟩ := h
  have hip : PIp X op r := fun pins s σ H x y v u Q I rx ry q => ho pins s σ H x y v u Q I rx ry q
  refine ⟨_, ps_aug hN hi hx pa hip hf, fun H0 G0 G ρ σ H D κ R h E => ?_⟩
  obtain ⟨v, r1, e1, h1, k1⟩ := dVar_ok R h
  refine ⟨v, e1, ?_⟩
  refine oa H0 G0 G ρ σ H _ _ _ R k1 (fun u H1 G1 y x1 h2 k2 => ?_) (E.xok R)
  have R1 := R.on x1
  refine hr H0 G1 H H1 r1 y v u _ _ _ x1.s R1.ext.h x1.h (h1.on x1) h2 k2 (fun w H2 G2 z x2 h3 k3 => ?_)
  unfold gN at k3
  split at k3
  · rename_i s e
    exact E.nx _ _ _ _ (R1.store x2 h3 e i) k3
  · exact k3.elim
theorem ms_augI (i : Nat) {x : Str} {pos' : Pos} (hN : X.N.Nodup) (h : ME X W e d) (hi : X.N[i]? = some x := by rfl) (hx : Loc X.env.scope x := by first | exact Or.inl rfl | exact Or.inr rfl)
    (hf : X.fn x = true ∨ X.env.scope.names.lookup x = some .local := by first | exact .inl rfl | exact .inr rfl | assumption) : MS X W (.AugAssign (.Name x pos') .Add e pos) (sAug i d (kI0 fun i j => .int (i + j))) :=
  ms_aug i iop_add (op2_I0 rdI) hN h hi hx hf
end
end DL
namespace DL
open PySem PySem.Spec PyProof.Rows L2
variable {K : PySem.W.Frag}

/-- what a body stands in -/
structure Cn (X : Cx) (W : WX) (k : Nat) : Prop where
  tk : Takes X W
  hp : PassesOwn (model X.prog X.w) X.A X.env X.xe
  hc : X.calm = true
  hr : Room k X.A
  nd : X.N.Nodup

/-! ### own lists: append, pop, x[i] = e -/
theorem ow_at {H0 G0 G H : Hp} {ρ : List Sl} {σ : L2.St} {i : Nat} {ds : List Dat} (R : Rel K H0 G0 G ρ σ H) (e : ρ[i]? = some (.ow ds)) : ∃ l vs, σ[i]? = some (some (.ref l)) ∧ H l = some (.lst vs) ∧ RdL K G ds vs := by
  obtain ⟨l, vs, a, b, c, _⟩ := R.sl _ _ e
  exact ⟨l, vs, a, b, c⟩
def sApp (i : Nat) (a : DE) : DS := fun κ ρ => match ρ[i]? with
  | some (.ow ds) => a ρ (fun r => match frz1 r with
    | some d => ds.length < sizeLine ∧ κ.nx (ρ.set i (.ow (ds ++ [d])))
    | none => False) (fun nm => κ.ex nm ρ)
  | _ => False
def sPop (i : Nat) (g : DG) : DS := fun κ ρ => match ρ[i]? with
  | some (.ow ds) => onS ds[ds.length - 1]? fun d => g (.v d) (ρ.set i (.ow ds.dropLast)) κ.nx
  | _ => False
def gDrop : DG := fun _ ρ κ => κ ρ
def sSetI (i : Nat) (a ix : DE) : DS := fun κ ρ => match ρ[i]? with
  | some (.ow ds) => a ρ (fun r => ix ρ (fun k => asI k fun k => match frz1 r with
    | some d => onS (ixN ds.length k) fun j => κ.nx (ρ.set i (.ow (ds.set j d)))
    | none => False) (fun nm => κ.ex nm ρ)) (fun nm => κ.ex nm ρ)
  | _ => False
section
variable {X : Cx} {W : WX} {e ix tg : Expr} {d dix : DE} {g : DG} {pos : Pos} {x : Str}
theorem ms_app (i : Nat) {p2 p3 p4 : Pos} (h : ME X W e d) (hN : X.N[i]? = some x := by rfl) (hv : Vis X.env.scope x := by first | exact Or.inl rfl | exact Or.inr (Or.inl rfl) | exact Or.inr (Or.inr rfl)) (hd : (x == ("__debug__" : Str)) = false := by decide)
    (hcd : (x == ("__classdict__" : Str)) = false := by decide) (hbase : attributeBase (.Name x p2) "append" X.env (eval (.Name x p2) X.env) = eval (.Name x p2) X.env := by rfl)
    (hs : swapsWith (.Call (.Attribute (.Name x p2) "append" p3) [e] [] p4) none pos.line X.env = pure false := by rfl) (hst : starEach (e :: []) X.env = (false, eval e X.env) :: starEach [] X.env := by rfl) (hline : (p3.endLine == p4.line) = true := by rfl)
    (hfew : ((backTo p4 (starEach (e :: []) X.env)).all (!·.1) && (backToKw p4 (keywordEach [] X.env)).all (·.1.isSome) && decide ((e :: []).length + ([] : List Keyword).length + (if ([] : List Keyword).isEmpty then 0 else 1) < 30)) = true := by rfl) :
    MS X W (.Expr (.Call (.Attribute (.Name x p2) "append" p3) [e] [] p4) pos) (sApp i d) := by
  obtain ⟨t, pa, oa⟩ := h
  refine ⟨_, ps_expr (pe_bm PySem.F.plainAttrs_list PySem.F.slot_list_append PySem.F.type_list_append mt_append (pe_var hN hv hd hcd) (pa_cons pa pa_nil hst) hbase (hfew := hfew) (hline := hline) (hs := hst)) hs, fun H0 G0 G ρ σ H D κ R h E => ?_⟩
  unfold sApp at h
  split at h
  · rename_i ds eo
    obtain ⟨l, vs, e1, e2, e3⟩ := ow_at R eo
    refine ⟨.ref l, e1, .inl ⟨rfl, _, SqL.of e2⟩, ?_⟩
    refine oa H0 G0 G ρ σ H _ _ _ R h (fun v H1 G1 r x1 hr k => ?_) (E.xok R)
    split at k
    · rename_i d ed
      obtain ⟨G2, x2, s2, r2⟩ := frz1_ok (Same.refl G1) x1 hr ed
      have R2 := R.on x2
      refine ⟨l, vs, v, rfl, rfl, x1.h _ _ e2, by rw [← e3.len]; exact k.1, ?_⟩
      exact E.nx _ _ _ _ (R2.write eo e1 ((e3.mono x2.g).append (RdL.cons r2 RdL.nil))) k.2
    · exact k.elim
  · exact h.elim
theorem ms_pop (i : Nat) {is : List Nat} {p2 p3 p4 : Pos} (hg : MG1 X tg is g) (hN : X.N[i]? = some x := by rfl) (hv : Vis X.env.scope x := by first | exact Or.inl rfl | exact Or.inr (Or.inl rfl) | exact Or.inr (Or.inr rfl)) (hd : (x == ("__debug__" : Str)) = false := by decide)
    (hcd : (x == ("__classdict__" : Str)) = false := by decide) (hbase : attributeBase (.Name x p2) "pop" X.env (eval (.Name x p2) X.env) = eval (.Name x p2) X.env := by rfl) (hline : (p3.endLine == p4.line) = true := by rfl)
    (hs : swapsWithSole [tg] (.Call (.Attribute (.Name x p2) "pop" p3) [] [] p4) pos.line X.env = pure false := by rfl) (hw : swappedStores [tg] (.Call (.Attribute (.Name x p2) "pop" p3) [] [] p4) X.env = pure none := by rfl) (h1 : (assignEach [tg] X.env).map (·.2) = [assign tg X.env] := by rfl) :
    MS X W (.Assign [tg] (.Call (.Attribute (.Name x p2) "pop" p3) [] [] p4) pos) (sPop i g) := by
  obtain ⟨u, pg, og⟩ := hg
  refine ⟨_, ps_asg (pe_bm0 PySem.F.plainAttrs_list PySem.F.slot_list_pop PySem.F.type_list_pop mt_pop (pe_var hN hv hd hcd) hbase hline) pg hs hw h1, fun H0 G0 G ρ σ H D κ R h E => ?_⟩
  unfold sPop at h
  split at h
  · rename_i ds eo
    obtain ⟨l, vs, e1, e2, e3⟩ := ow_at R eo
    obtain ⟨d, ed, h⟩ := onS.of h
    · obtain ⟨v, ev, rv⟩ := e3.get ed
      refine ⟨.ref l, e1, .inl ⟨rfl, _, SqL.of e2⟩, l, vs, v, rfl, rfl, e2, by rw [← e3.len]; exact ev, ?_⟩
      have R2 := R.write eo e1 e3.dropLast
      exact og H0 G0 G G _ σ _ _ (.v d) v _ _ R2 (Ext.refl R2.ext.s) rv h fun ρ' σ' R' _ k => E.nx ρ' σ' _ G R' k
  · exact h.elim
theorem ms_popD (i : Nat) {p2 p3 p4 : Pos} (hN : X.N[i]? = some x := by rfl) (hv : Vis X.env.scope x := by first | exact Or.inl rfl | exact Or.inr (Or.inl rfl) | exact Or.inr (Or.inr rfl)) (hd : (x == ("__debug__" : Str)) = false := by decide)
    (hcd : (x == ("__classdict__" : Str)) = false := by decide) (hbase : attributeBase (.Name x p2) "pop" X.env (eval (.Name x p2) X.env) = eval (.Name x p2) X.env := by rfl) (hline : (p3.endLine == p4.line) = true := by rfl)
    (hs : swapsWith (.Call (.Attribute (.Name x p2) "pop" p3) [] [] p4) none pos.line X.env = pure false := by rfl) :
    MS X W (.Expr (.Call (.Attribute (.Name x p2) "pop" p3) [] [] p4) pos) (sPop i gDrop) := by
  refine ⟨_, ps_expr (pe_bm0 PySem.F.plainAttrs_list PySem.F.slot_list_pop PySem.F.type_list_pop mt_pop (pe_var hN hv hd hcd) hbase hline) hs, fun H0 G0 G ρ σ H D κ R h E => ?_⟩
  unfold sPop at h
  split at h
  · rename_i ds eo
    obtain ⟨l, vs, e1, e2, e3⟩ := ow_at R eo
    obtain ⟨d, ed, h⟩ := onS.of h
    · obtain ⟨v, ev, rv⟩ := e3.get ed
      refine ⟨.ref l, e1, .inl ⟨rfl, _, SqL.of e2⟩, l, vs, v, rfl, rfl, e2, by rw [← e3.len]; exact ev, ?_⟩
      exact E.nx _ σ _ G (R.write eo e1 e3.dropLast) h
  · exact h.elim
theorem ms_setI (i : Nat) {p2 p3 : Pos} (h : ME X W e d) (hix : ME X W ix dix) (hN : X.N[i]? = some x := by rfl) (hv : Vis X.env.scope x := by first | exact Or.inl rfl | exact Or.inr (Or.inl rfl) | exact Or.inr (Or.inr rfl)) (hd : (x == ("__debug__" : Str)) = false := by decide)
    (hcd : (x == ("__classdict__" : Str)) = false := by decide)
    (ha : ∀ v, assign (.Subscript (.Name x p2) ix p3) X.env v = (do
      let ov ← holding [v] (eval (.Name x p2) X.env)
      let iv ← holding [v, ov] (eval ix X.env)
      standAt p3
      holding [v, ov, iv] (setItem ov iv v)
      release [v, ov, iv] []) := by intro _; rfl)
    (hs : swapsWithSole [.Subscript (.Name x p2) ix p3] e pos.line X.env = pure false := by rfl) (hw : swappedStores [.Subscript (.Name x p2) ix p3] e X.env = pure none := by rfl) (h1 : (assignEach [.Subscript (.Name x p2) ix p3] X.env).map (·.2) = [assign (.Subscript (.Name x p2) ix p3) X.env] := by rfl) :
    MS X W (.Assign [.Subscript (.Name x p2) ix p3] e pos) (sSetI i d dix) := by
  obtain ⟨t, pa, oa⟩ := h
  obtain ⟨u, pi, oi⟩ := hix
  refine ⟨_, ps_asg pa (pg_sub (pe_var hN hv hd hcd) pi set_list ha) hs hw h1, fun H0 G0 G ρ σ H D κ R h E => ?_⟩
  unfold sSetI at h
  split at h
  · rename_i ds eo
    obtain ⟨l, vs, e1, e2, e3⟩ := ow_at R eo
    refine oa H0 G0 G ρ σ H _ _ _ R h (fun v H1 G1 r x1 hr k => ?_) (E.xok R)
    refine ⟨.ref l, e1, ?_⟩
    have R1 := R.on x1
    refine oi H0 G0 G1 ρ σ H1 _ _ _ R1 k (fun w H2 G2 z x2 hz k2 => ?_) (E.xok R1)
    obtain ⟨j, rfl, k3⟩ := asI.of k2
    have hz : RdD X.K G2 (.int j) w := hz
    unfold RdD at hz
    have x12 := x1.trans x2
    split at k3
    · rename_i d ed
      obtain ⟨jj, ej, k3⟩ := onS.of k3
      · obtain ⟨G3, x3, s3, r3⟩ := frz1_ok (Same.refl G2) x12 (hr.on x2) ed
        have R3 := R.on x3
        refine ⟨l, vs, j, jj, rfl, hz, x12.h _ _ e2, by rw [← e3.len]; exact ej, ?_⟩
        exact E.nx _ _ _ _ (R3.write eo e1 ((e3.mono x3.g).set jj r3)) k3
    · exact k3.elim
  · exact h.elim
end

/-! ### a, b = x, y -/
def sPar (i j : Nat) (a : DA) : DS := fun κ ρ => a ρ (fun rs => match rs with
  | [x, y] => (match frz1 x, frz1 y with
    | some d, some e => κ.nx ((ρ.set i (.fz d)).set j (.fz e))
    | _, _ => False)
  | _ => False) (fun nm => κ.ex nm ρ)
section
variable {X : Cx} {W : WX} {pos : Pos}
theorem ms_par (i j : Nat) {x y : Str} {a b : Expr} {da : DA} {px py pt : Pos} {kt k2 : Nat} {pt2 : Pos} (hc : X.calm = true) (hN : X.N.Nodup) (ha : MA X W [a, b] da) (hij : i ≠ j := by decide) (hi : X.N[i]? = some x := by rfl) (hj : X.N[j]? = some y := by rfl)
    (hx : X.env.scope.names.lookup x = some .local := by rfl) (hy : X.env.scope.names.lookup y = some .local := by rfl)
    (hw : swappedStores [.Tuple [.Name x px, .Name y py] kt pt] (.Tuple [a, b] k2 pt2) X.env = pure (some [x, y]) := by rfl)
    (hs : swapsWithSole [.Tuple [.Name x px, .Name y py] kt pt] (.Tuple [a, b] k2 pt2) pos.line X.env = pure false := by rfl) : MS X W (.Assign [.Tuple [.Name x px, .Name y py] kt pt] (.Tuple [a, b] k2 pt2) pos) (sPar i j da) := by
  obtain ⟨t, pa, oa⟩ := ha
  refine ⟨_, ps_par hc hN hi hj hij hx hy pa hw hs, fun H0 G0 G ρ σ H D κ R h E => ?_⟩
  refine oa H0 G0 G ρ σ H _ _ _ R h (fun vs H1 G1 rs x1 hr k => ?_) (E.xok R)
  split at k
  · rename_i x y
    split at k
    · rename_i d e ed ee
      obtain ⟨G2, x2, s2, r2⟩ := frzs_ok (ds := [d, e]) x1 hr (by unfold frzs frzs frzs; rw [ed, ee])
      unfold RdL at r2
      obtain ⟨v, w1, rfl, h1, h2⟩ := r2
      unfold RdL at h2
      obtain ⟨w, w2, rfl, h3, h4⟩ := h2
      unfold RdL at h4
      subst h4
      have R1 := R.store (r := .v d) (i := i) x2 h1 rfl
      have R2 := R1.store (r := .v e) (i := j) (Ext.refl x2.s) h3 rfl
      exact ⟨v, w, rfl, E.nx _ _ _ _ R2 k⟩
    · exact k.elim
  · exact k.elim
end

/-! ### what is walked -/
abbrev DI := List Sl → (List Dat → Prop) → (Str → Prop) → Prop
structure ItOk (K : PySem.W.Frag) (J : It) (ds : List Dat) (B G : Hp) : Prop where
  go : ∀ i H, Same B H → Same G H → i < ds.length → J.go i H
  stop : ∀ i H, Same B H → Same G H → ds.length ≤ i → J.stop i H
  yld : ∀ i H x H' Gc d, Same B H → Same G Gc → Same Gc H → ds[i]? = some d → J.yld i H x H' → ∃ G', Ext H Gc H' G' ∧ RdD K G' d x
def IOk (K : PySem.W.Frag) (c : Bool) (mg : MG) (W : WX) (wi : TI) (δ : DI) : Prop := ∀ H0 G0 G ρ σ H (R : It → Hp → Prop) κ ε, Rel K H0 G0 G ρ σ H → δ ρ κ ε →
  (∀ J H' G' ds, Ext H G H' G' → ItOk K J ds (if c = true then H' else H0) G' → κ ds → R J H') → XOk mg W H G σ ε → wi σ H R
structure MI (X : Cx) (W : WX) (c : Bool) (tg iter : Expr) (δ : DI) : Prop where
  ex : ∃ wi, PI X tg iter wi ∧ IOk X.K c X.mg W wi δ
/-- a list (or a tuple); c: one's own too -/
def stays : Bool → Rv → Bool
  | false, .o _ => false
  | _, _ => true
def iLst (c : Bool) (a : DE) : DI := fun ρ κ ε => a ρ (fun r => stays c r = true ∧ asQ r κ) ε
def iSeq (K : PySem.W.Frag) (tl : TE) : TI := fun σ H R => tl σ H fun x H1 => ∃ a, x = .ref a ∧ (((∃ xs, SqL K H1 a xs) ∧ R (Itl K a) H1) ∨ ((∃ xs, SqT K H1 a xs) ∧ R (Itt K a) H1))
theorem pi_seq {X : Cx} {tg l : Expr} {tl : TE} (hl : PE X l tl) : PI X tg l (iSeq X.K tl) := by
  refine ⟨fun pins s σ H R I h => ?_⟩
  refine thn (hl.run pins s σ H _ I h) fun v s1 ⟨x, H1, I1, r1, q1⟩ => ?_
  obtain ⟨a, e, q1⟩ := q1
  subst e
  cases r1
  rcases q1 with ⟨⟨xs, hq⟩, q⟩ | ⟨⟨xs, hq⟩, q⟩
  · obtain ⟨its, rv, p, hz⟩ := I1.list hq
    refine wpAny_pyIter_list p.isList ?_
    refine ⟨s1.heap.objs.size, [s1.heap.objs.size], _, _, H1, rfl, I1.kept (t' := s1.toks) fun b o e => Heap.get?_push_of_some _ e, turn_list a _, ⟨_, Heap.get?_push_size _ rfl, rfl, rfl⟩, fun b hb => ?_, q⟩
    have e : b = s1.heap.objs.size := by simpa using hb
    subst e
    exact I1.fpOk (Nat.le_refl _) (I1.hok.fresh (Nat.le_refl _))
  · obtain ⟨its, rv, p, hz⟩ := I1.tuple hq
    refine wpAny_pyIter_tuple (show s1.heap.IsTuple a its.toArray from p) ?_
    refine ⟨s1.heap.objs.size, [s1.heap.objs.size], _, _, H1, rfl, I1.kept (t' := s1.toks) fun b o e => Heap.get?_push_of_some _ e, turn_tuple a _, ⟨_, Heap.get?_push_size _ rfl, rfl, rfl⟩, fun b hb => ?_, q⟩
    have e : b = s1.heap.objs.size := by simpa using hb
    subst e
    exact I1.fpOk (Nat.le_refl _) (I1.hok.fresh (Nat.le_refl _))
theorem itOk_list {K : PySem.W.Frag} {a : Addr} {vs : List V} {ds : List Dat} {B G : Hp} (h : ∀ H, Same B H → Same G H → SqL K H a vs) (r : RdL K G ds vs) : ItOk K (Itl K a) ds B G := by
  refine ⟨fun i H b g hi => ?_, fun i H b g hi => ⟨vs, h H b g, by rw [← r.len]; exact hi⟩, fun i H x H' Gc d b g gc hd hy => ?_⟩
  · rw [r.len] at hi
    exact ⟨vs, _, h H b g, List.getElem?_eq_getElem hi⟩
  · obtain ⟨rfl, q⟩ := hy
    obtain ⟨v, e1, e2⟩ := r.get hd
    have e := q vs (h _ b (g.trans gc))
    rw [e1] at e
    cases e
    exact ⟨Gc, Ext.refl gc, RdD.mono g _ _ e2⟩
theorem itOk_tup {K : PySem.W.Frag} {a : Addr} {vs : List V} {ds : List Dat} {B G : Hp} (h : ∀ H, Same B H → Same G H → SqT K H a vs) (r : RdL K G ds vs) : ItOk K (Itt K a) ds B G := by
  refine ⟨fun i H b g hi => ?_, fun i H b g hi => ⟨vs, h H b g, by rw [← r.len]; exact hi⟩, fun i H x H' Gc d b g gc hd hy => ?_⟩
  · rw [r.len] at hi
    exact ⟨vs, _, h H b g, List.getElem?_eq_getElem hi⟩
  · obtain ⟨rfl, q⟩ := hy
    obtain ⟨v, e1, e2⟩ := r.get hd
    have e := q vs (h _ b (g.trans gc))
    rw [e1] at e
    cases e
    exact ⟨Gc, Ext.refl gc, RdD.mono g _ _ e2⟩
theorem itOk_rng {lo : Int} {n : Nat} {B G : Hp} : ItOk K (Itr lo n) ((List.range n).map fun (i : Nat) => Dat.int (lo + (i : Int))) B G := by
  refine ⟨fun i H b g hi => (show i < n by simpa using hi), fun i H b g hi => (show n ≤ i by simpa using hi), fun i H x H' Gc d b g gc hd hy => ?_⟩
  obtain ⟨rfl, rfl⟩ := hy
  refine ⟨Gc, Ext.refl gc, ?_⟩
  rw [List.getElem?_map] at hd
  by_cases hi : i < n
  · rw [List.getElem?_range hi] at hd
    cases hd
    unfold RdD; rfl
  · rw [List.getElem?_eq_none (by simpa using hi)] at hd
    exact nomatch hd
section
variable {X : Cx} {W : WX} {tg e a b : Expr} {d da db : DE} {c : Bool}
theorem mi_list (h : ME X W e d) : MI X W c tg e (iLst c d) := by
  obtain ⟨t, pa, oa⟩ := h
  refine ⟨_, pi_seq pa, fun H0 G0 G ρ σ H R κ ε RR h hq hx => ?_⟩
  refine oa H0 G0 G ρ σ H _ _ ε RR h (fun v H1 G1 r x1 hr k => ?_) hx
  obtain ⟨ks, k⟩ := k
  obtain ⟨ds, ed, k⟩ := asQ.of k
  have R1 := RR.on x1
  rcases ed with ed | ed
  rotate_left
  · obtain rfl := Rv.tup_of ed
    have hr : RdD X.K G1 (.tup ds) v := hr
    unfold RdD at hr
    obtain ⟨l, vs, rfl, b2, c2⟩ := hr
    exact ⟨l, rfl, .inr ⟨⟨vs, SqT.of (x1.s _ _ b2)⟩, hq _ H1 G1 ds x1 (itOk_tup (vs := vs) (fun H b g => SqT.of (g _ _ b2)) c2) k⟩⟩
  obtain ⟨l, vs, rfl, b1, c1⟩ := hr.lst x1.s R1.ext.h ed
  refine ⟨l, rfl, .inl ⟨⟨vs, b1⟩, ?_⟩⟩
  by_cases hcc : c = true
  · refine hq _ H1 G1 ds x1 ?_ k
    rw [if_pos hcc]
    exact itOk_list (vs := vs) (fun H b g => rd_mono b b1) c1
  · cases r with
    | v d0 =>
      have ed : d0 = .lst ds := ed
      subst ed
      have hr : RdD X.K G1 (.lst ds) (.ref l) := hr
      unfold RdD at hr
      obtain ⟨l', vs', e1, b2, c2⟩ := hr
      cases e1
      exact hq _ H1 G1 ds x1 (itOk_list (vs := vs') (fun H b g => rd_mono g b2) c2) k
    | n es =>
      injection ed with ed; subst ed
      obtain ⟨l', vs', e1, b2, c2, n2, g2⟩ := hr
      cases e1
      obtain ⟨y, s⟩ := x1.put n2 b2 g2
      exact hq _ H1 _ es y (itOk_list (vs := vs') (fun H b g => sq_of (g _ _ upd_same)) (c2.mono s)) k
    | b es =>
      injection ed with ed; subst ed
      obtain ⟨l', vs', e1, b2, c2⟩ := hr
      cases e1
      refine hq _ H1 G1 es x1 ?_ k
      rw [if_neg hcc]
      exact itOk_list (vs := vs') (fun H b g => rd_mono b b2) c2
    | o es =>
      cases c with
      | true => exact absurd rfl hcc
      | false => exact nomatch ks
def iTupD (a : DE) : DI := fun ρ κ ε => a ρ (fun r => match r with
  | .v (.tup ds) => κ ds
  | _ => False) ε
theorem mi_tup (h : ME X W e d) : MI X W c tg e (iTupD d) := by
  obtain ⟨t, pa, oa⟩ := h
  refine ⟨_, pi_tup pa, fun H0 G0 G ρ σ H R κ ε RR h hq hx => ?_⟩
  refine oa H0 G0 G ρ σ H _ _ ε RR h (fun v H1 G1 r x1 hr k => ?_) hx
  split at k
  · rename_i ds
    have hr : RdD X.K G1 (.tup ds) v := hr
    unfold RdD at hr
    obtain ⟨l, vs, rfl, b2, c2⟩ := hr
    exact ⟨l, rfl, ⟨vs, SqT.of (x1.s _ _ b2)⟩, hq _ H1 G1 ds x1 (itOk_tup (vs := vs) (fun H b g => SqT.of (g _ _ b2)) c2) k⟩
  · exact k.elim
def rngD (lo : Int) (n : Nat) : List Dat := (List.range n).map fun (i : Nat) => Dat.int (lo + (i : Int))
def iRng1 (a : DE) : DI := fun ρ κ ε => a ρ (fun x => asI x fun j => (-(2 ^ 62) ≤ j ∧ j < 2 ^ 62) ∧ κ (rngD 0 j.toNat)) ε
def iRng2 (a b : DE) : DI := fun ρ κ ε => a ρ (fun x => b ρ (fun y => asI x fun i => asI y fun j => (-(2 ^ 62) ≤ i ∧ i < 2 ^ 62 ∧ -(2 ^ 62) ≤ j ∧ j < 2 ^ 62) ∧ κ (rngD i (j - i).toNat)) ε) ε
theorem mi_rng1 {p pos : Pos} (hm : X.mg "range" = none) (ha : ME X W a da) (hg : Gl X "range" := by rfl) (hs : starEach [a] X.env = [(false, eval a X.env)] := by rfl) : MI X W c tg (.Call (.Name "range" p) [a] [] pos) (iRng1 da) := by
  obtain ⟨t, pa, oa⟩ := ha
  refine ⟨_, pi_range1 hg hm (pa_cons pa pa_nil hs) hs, fun H0 G0 G ρ σ H R κ ε RR h hq hx => ?_⟩
  refine oa H0 G0 G ρ σ H _ _ ε RR h (fun v H1 G1 r x1 hr k => ?_) hx
  obtain ⟨j, rfl, k1, k2⟩ := asI.of k
  have hr : RdD X.K G1 (.int j) v := hr
  unfold RdD at hr
  subst hr
  exact ⟨j, rfl, k1.1, k1.2, hq _ H1 G1 _ x1 itOk_rng k2⟩
theorem mi_rng2 {p pos : Pos} (hm : X.mg "range" = none) (ha : ME X W a da) (hb : ME X W b db) (hg : Gl X "range" := by rfl) (hs : starEach [a, b] X.env = [(false, eval a X.env), (false, eval b X.env)] := by rfl) (hs2 : starEach [b] X.env = [(false, eval b X.env)] := by rfl) : MI X W c tg (.Call (.Name "range" p) [a, b] [] pos) (iRng2 da db) := by
  obtain ⟨t, pa, oa⟩ := ha
  obtain ⟨u, pb, ob⟩ := hb
  refine ⟨_, pi_range2 hg hm (pa_cons pa (pa_cons pb pa_nil hs2) (by rw [hs, hs2])) hs hs2, fun H0 G0 G ρ σ H R κ ε RR h hq hx => ?_⟩
  refine oa H0 G0 G ρ σ H _ _ ε RR h (fun v H1 G1 r x1 hr k => ?_) hx
  refine ob H0 G0 G1 ρ σ H1 _ _ ε (RR.on x1) k (fun w H2 G2 z x2 hz k2 => ?_) (hx.on x1)
  obtain ⟨i, rfl, k3⟩ := asI.of k2
  obtain ⟨j, rfl, k4, k5⟩ := asI.of k3
  have hr : RdD X.K G1 (.int i) v := hr
  have hz : RdD X.K G2 (.int j) w := hz
  unfold RdD at hr hz
  subst hr hz
  exact ⟨i, j, rfl, k4, hq _ H2 G2 _ (x1.trans x2) itOk_rng k5⟩
end

/-! ### for -/
def sForL (g : DG) (b : DS) (κ : DEnds) : List Dat → List Sl → Prop
  | [], ρ => κ.nx ρ
  | d :: ds, ρ => g (.v d) ρ (fun ρ1 => b { κ with nx := sForL g b κ ds, ct := sForL g b κ ds, bk := κ.nx } ρ1)
def sFor (i : DI) (g : DG) (b : DS) : DS := fun κ ρ => i ρ (fun ds => sForL g b κ ds ρ) (fun nm => κ.ex nm ρ)
section
variable {X : Cx} {W : WX} {tg iter : Expr} {body : List Stmt} {i : DI} {g : DG} {b : DS} {pos : Pos}
theorem ms_for {k : Nat} {is : List Nat} (C : Cn X W k) (hi : MI X W false tg iter i) (hg : MG1 X tg is g) (hb : MSs X W body b) (hs : ∀ x, foldedSetIterable iter X.env x = pure x := by intro _; rfl) : MS X W (.For tg iter body [] pos) (sFor i g b) := by
  obtain ⟨wi, pi, oi⟩ := hi
  obtain ⟨tg', pg, og⟩ := hg
  obtain ⟨tb, pb, ob⟩ := hb
  refine ⟨_, ps_for C.hp C.hc pi pg pb hs, fun H0 G0 G ρ σ H D κ R h E => ?_⟩
  refine oi H0 G0 G ρ σ H _ _ _ R h (fun J H1 G1 ds x1 hj hk => ?_) (E.xok R)
  have R1 := R.on x1
  have E1 := E.sub R1
  have hj : ItOk X.K J ds H0 G1 := hj
  refine ⟨fun i m σ H => ∃ ρ G', Rel X.K H0 G1 G' ρ σ H ∧ m = ds.length - i ∧ sForL g b κ (ds.drop i) ρ, ⟨ds.length, ρ, G1, R1.here, rfl, by simpa using hk⟩, ?_⟩
  rintro i m σ' H' ⟨ρ', G', R', rfl, hl⟩
  by_cases hlt : i < ds.length
  · refine .inr ⟨hj.go i H' R'.ext.h (R'.ext.g.trans R'.ext.s) hlt, fun σ2 H2 => ∃ ρ2 G2, Rel X.K H0 G1 G2 ρ2 σ2 H2 ∧ sForL g b κ (ds.drop (i + 1)) ρ2, fun σ2 H2 ⟨ρ2, G2, R2, h2⟩ => ⟨ds.length - (i + 1), by omega, ρ2, G2, R2, rfl, h2⟩, fun x H2 hy => ?_⟩
    have hd : ds[i]? = some ds[i] := List.getElem?_eq_getElem hlt
    obtain ⟨G2, x2, r2⟩ := hj.yld i H' x H2 G' _ R'.ext.h R'.ext.g R'.ext.s hd hy
    rw [List.drop_eq_getElem_cons hlt] at hl
    refine og H0 G1 G' G2 ρ' σ' H' H2 (.v ds[i]) x _ _ R' x2 r2 hl fun ρ3 σ3 R3 _ k3 => ?_
    exact ob H0 G1 G2 ρ3 σ3 H2 _ _ R3 k3 ⟨fun ρ4 σ4 H4 G4 R4 k4 => ⟨ρ4, G4, R4, k4⟩, fun ρ4 σ4 H4 G4 R4 k4 => E1.nx ρ4 σ4 H4 G4 R4 k4, fun ρ4 σ4 H4 G4 R4 k4 => ⟨ρ4, G4, R4, k4⟩, E1.rt, E1.ex⟩
  · refine .inl ⟨hj.stop i H' R'.ext.h (R'.ext.g.trans R'.ext.s) (by omega), ?_⟩
    rw [List.drop_eq_nil_of_le (by omega)] at hl
    exact E1.nx ρ' σ' H' G' R' hl
end

/-! ### while -/
def wIter (c : DT) (b : DS) (κ : DEnds) : Nat → List Sl → Prop
  | 0, _ => False
  | n + 1, ρ => c ρ (fun k => if k = true then b { κ with nx := wIter c b κ n, ct := wIter c b κ n, bk := κ.nx } ρ else κ.nx ρ) (fun nm => κ.ex nm ρ)
def sWhile (c : DT) (b : DS) : DS := fun κ ρ => ∃ n, wIter c b κ n ρ
section
variable {X : Cx} {W : WX} {t : Expr} {body : List Stmt} {c : DT} {b : DS} {pos : Pos}
theorem ms_while {k : Nat} (C : Cn X W k) (hc : MT X W t c) (hb : MSs X W body b) : MS X W (.While t body [] pos) (sWhile c b) := by
  obtain ⟨tc, pc, oc⟩ := hc
  obtain ⟨tb, pb, ob⟩ := hb
  refine ⟨_, ps_while C.hp pc pb, fun H0 G0 G ρ σ H D κ R ⟨n, h⟩ E => ?_⟩
  refine ⟨fun m σ H => ∃ ρ G', Rel X.K H0 G0 G' ρ σ H ∧ wIter c b κ m ρ, ⟨n, ρ, G, R, h⟩, ?_⟩
  rintro m σ' H' ⟨ρ', G', R', hm⟩
  cases m with
  | zero => exact hm.elim
  | succ m =>
    refine oc H0 G0 G' ρ' σ' H' _ _ _ R' hm (fun kk H2 G2 x2 hk => ?_) (E.xok R')
    have R2 := R'.on x2
    by_cases hkk : kk = true
    · rw [if_pos hkk] at hk ⊢
      refine ⟨fun σ3 H3 => ∃ ρ3 G3, Rel X.K H0 G0 G3 ρ3 σ3 H3 ∧ wIter c b κ m ρ3, fun σ3 H3 h3 => ⟨m, Nat.lt_succ_self m, h3⟩, ?_⟩
      exact ob H0 G0 G2 ρ' σ' H2 _ _ R2 hk ⟨fun ρ4 σ4 H4 G4 R4 k4 => ⟨ρ4, G4, R4, k4⟩, fun ρ4 σ4 H4 G4 R4 k4 => E.nx ρ4 σ4 H4 G4 R4 k4, fun ρ4 σ4 H4 G4 R4 k4 => ⟨ρ4, G4, R4, k4⟩, E.rt, E.ex⟩
    · rw [if_neg hkk] at hk ⊢
      exact E.nx _ _ _ _ R2 hk
end
end DL
namespace DL
open PySem PySem.Spec PyProof.Rows L2
variable {K : PySem.W.Frag}

/-! ### comprehensions -/
def wipeS (ρ : List Sl) : List Nat → List Sl
  | [] => ρ
  | v :: vs => (wipeS ρ vs).set v .un
theorem wipeS_len (ρ : List Sl) : ∀ vs : List Nat, (wipeS ρ vs).length = ρ.length
  | [] => rfl
  | v :: vs => by unfold wipeS; rw [List.length_set, wipeS_len ρ vs]
theorem wipeS_at (ρ : List Sl) : ∀ (vs : List Nat) (i : Nat) (s : Sl), (wipeS ρ vs)[i]? = some s → s = Sl.un ∨ (ρ[i]? = some s ∧ i ∉ vs)
  | [], i, s, h => .inr ⟨h, by simp⟩
  | v :: vs, i, s, h => by
    unfold wipeS at h
    by_cases hv : v = i
    · subst hv
      by_cases hl : v < (wipeS ρ vs).length
      · rw [List.getElem?_set_self hl] at h; cases h; exact .inl rfl
      · rw [List.getElem?_eq_none (by rw [List.length_set]; omega)] at h; exact nomatch h
    · rw [List.getElem?_set_ne hv] at h
      rcases wipeS_at ρ vs i s h with e | ⟨a, b⟩
      · exact .inl e
      · exact .inr ⟨a, fun z => (List.mem_cons.mp z).elim (fun q => hv q.symm) b⟩
theorem Rel.wipe {H0 G0 G H : Hp} {ρ : List Sl} {σ : L2.St} (R : Rel K H0 G0 G ρ σ H) (vs : List Nat) : Rel K H0 G0 G (wipeS ρ vs) (wipe σ vs) H :=
  R.weak (wipeS_len ρ vs) (wipe_length σ vs) fun i s h => by
    rcases wipeS_at ρ vs i s h with e | ⟨a, b⟩
    · exact .inl e
    · exact .inr ⟨a, wipe_out b⟩
theorem wipe_in {σ : L2.St} : ∀ {vs : List Nat} {i : Nat}, i ∈ vs → i < σ.length → (wipe σ vs)[i]? = some none
  | v :: vs, i, h, hl => by
    unfold wipe
    by_cases hv : v = i
    · subst hv
      rw [List.getElem?_set_self (by rw [wipe_length]; exact hl)]
    · rw [List.getElem?_set_ne hv]
      exact wipe_in ((List.mem_cons.mp h).elim (fun q => absurd q.symm hv) id) hl
theorem wipe_tch {is vs : List Nat} {σ σ' : L2.St} (h : Tch is (wipe σ vs) σ') (s : ∀ i ∈ is, i ∈ vs) : wipe σ' vs = wipe σ vs := by
  apply List.ext_getElem?
  intro i
  have hl : σ'.length = σ.length := by rw [h.1, wipe_length]
  by_cases hi : i ∈ vs
  · by_cases hb : i < σ.length
    · rw [wipe_in hi (by rw [hl]; exact hb), wipe_in hi hb]
    · rw [List.getElem?_eq_none (by rw [wipe_length]; omega), List.getElem?_eq_none (by rw [wipe_length]; omega)]
  · rw [wipe_out hi, h.2 i (fun z => hi (s i z))]
def lcL (g : DG) (t : DT) (e : DE) (ρ : List Sl) (κ : Rv → Prop) (acc : List Dat) : List Dat → Prop
  | [] => κ (.n acc)
  | d :: ds => g (.v d) ρ (fun ρ1 => t ρ1 (fun b => if b = true then e ρ1 (fun r => match frz1 r with
    | some x => acc.length < sizeLine ∧ lcL g t e ρ κ (acc ++ [x]) ds
    | none => False) (fun _ => False) else lcL g t e ρ κ acc ds) (fun _ => False))
def dLc (i : DI) (g : DG) (t : DT) (e : DE) (vs : List Nat) : DE := fun ρ κ ε => i ρ (fun ds => lcL g t e (wipeS ρ vs) κ [] ds) ε
abbrev W0 : WX := fun _ _ _ _ => False
theorem XOk.none {mg : MG} {H G : Hp} {σ : L2.St} : XOk mg W0 H G σ (fun _ => False) := fun _ _ _ _ _ _ k => k
structure MTs (X : Cx) (W : WX) (es : List Expr) (δ : DT) : Prop where
  ex : ∃ t, PTs X es t ∧ TOk X.K X.mg W t δ
def tYesD : DT := fun _ κ _ => κ true
theorem mts_nil {X : Cx} {W : WX} : MTs X W [] tYesD := ⟨_, pts_nil, fun H0 G0 G ρ σ H Q κ ε R h hq hx => hq _ H G (Ext.refl R.ext.s) h⟩
theorem mts_one {X : Cx} {W : WX} {c : Expr} {p : DT} (h : MT X W c p) : MTs X W [c] p := by
  obtain ⟨t, pa, oa⟩ := h
  exact ⟨_, pts_one pa, oa⟩
theorem eok_lc {mg : MG} {W : WX} {wi : TI} {g : TG} {tt : TT} {te : TE} {vs is : List Nat} {di : DI} {dg : DG} {dt : DT} {de : DE} (hi : IOk K true mg W wi di) (hg : GOk K g is dg) (ht : TOk K mg W0 tt dt) (he : EOk K mg W0 te de) (hv : ∀ i ∈ is, i ∈ vs) : EOk K mg W (tLc wi g tt te vs) (dLc di dg dt de vs) := by
  intro H0 G0 G ρ σ H Q κ ε R h hq hx
  refine hi H0 G0 G ρ σ H _ _ ε R h (fun J H1 G1 ds x1 hj hk => ?_) hx
  have hj : ItOk K J ds H1 G1 := hj
  intro D nD
  have x0 := Ext.newH (o := HO.lst []) x1.s nD
  have nDH : H D = none := x1.h.free nD
  have nDG : G1 D = none := x1.s.free nD
  refine ⟨fun i m H' => ∃ (acc : List Dat) (vacc : List V) (G' : Hp), Ext H G H' G' ∧ Ext H1 G1 H' G' ∧ H' D = some (.lst vacc) ∧ RdL K G' acc vacc ∧ G' D = none ∧ m = ds.length - i ∧ lcL dg dt de (wipeS ρ vs) κ acc (ds.drop i),
    ⟨ds.length, [], [], G1, x1.trans x0, x0, upd_same, RdL.nil, nDG, rfl, by simpa using hk⟩, ?_⟩
  rintro i m H' ⟨acc, vacc, G', xs, xn, hD, rD, gD, rfl, hl⟩
  by_cases hlt : i < ds.length
  · refine .inr ⟨hj.go i H' xn.h (xn.g.trans xn.s) hlt, fun H2 => ∃ (acc : List Dat) (vacc : List V) (G' : Hp), Ext H G H2 G' ∧ Ext H1 G1 H2 G' ∧ H2 D = some (.lst vacc) ∧ RdL K G' acc vacc ∧ G' D = none ∧ lcL dg dt de (wipeS ρ vs) κ acc (ds.drop (i + 1)),
      fun H2 ⟨a, b, c, h1, h2, h3, h4, h5, h6⟩ => ⟨ds.length - (i + 1), by omega, a, b, c, h1, h2, h3, h4, h5, rfl, h6⟩, fun x H2 hy => ?_⟩
    have hd : ds[i]? = some ds[i] := List.getElem?_eq_getElem hlt
    obtain ⟨G2, x2, r2⟩ := hj.yld i H' x H2 G' _ xn.h xn.g xn.s hd hy
    rw [List.drop_eq_getElem_cons hlt] at hl
    have Rw := (R.on xs).wipe vs
    refine hg H0 G0 G' G2 _ _ H' H2 (.v ds[i]) x _ _ Rw x2 r2 hl fun ρ3 σ3 R3 t3 k3 => ?_
    refine ⟨wipe_tch t3 hv, ?_⟩
    refine ht H0 G0 G2 ρ3 σ3 H2 _ _ _ R3 k3 (fun b H3 G3 x3 hb => ?_) XOk.none
    have xs3 := (xs.trans x2).trans x3
    have xn3 := (xn.trans x2).trans x3
    have gD3 : G3 D = none := (x2.trans x3).f D (by rw [hD]; exact fun z => nomatch z) gD
    by_cases hbb : b = true
    · rw [if_pos hbb] at hb ⊢
      refine he H0 G0 G3 ρ3 σ3 H3 _ _ _ (R3.on x3) hb (fun y H4 G4 r x4 hr k4 => ?_) XOk.none
      split at k4
      · rename_i z ez
        obtain ⟨G5, x5, s5, r5⟩ := frz1_ok (Same.refl G4) x4 hr ez
        have hD3 := x3.h _ _ (x2.h _ _ hD)
        have hD4 : H4 D = some (.lst vacc) := x4.h _ _ hD3
        have gD5 : G5 D = none := x5.f D (by rw [hD3]; exact fun z => nomatch z) gD3
        refine ⟨vacc, hD4, by rw [← rD.len]; exact k4.1, ?_⟩
        have xs5 := xs3.trans x5
        have xn5 := xn3.trans x5
        have wr : ∀ {A : Hp}, Same A H4 → A D = none → Same A (upd H4 D (.lst (vacc ++ [y]))) := fun s n b o hb' => by
          rw [upd_ne (fun z => by rw [z, n] at hb'; exact nomatch hb')]
          exact s _ _ hb'
        refine ⟨acc ++ [z], vacc ++ [y], G5, ⟨wr xs5.h nDH, xs5.g, wr xs5.s gD5, xs5.f⟩, ⟨wr xn5.h nD, xn5.g, wr xn5.s gD5, xn5.f⟩, upd_same, ?_, gD5, k4.2⟩
        exact (rD.mono ((x2.g.trans x3.g).trans x5.g)).append (RdL.cons r5 RdL.nil)
      · exact k4.elim
    · rw [if_neg hbb] at hb ⊢
      exact ⟨acc, vacc, G3, xs3, xn3, x3.h _ _ (x2.h _ _ hD), rD.mono (x2.g.trans x3.g), gD3, hb⟩
  · refine .inl ⟨hj.stop i H' xn.h (xn.g.trans xn.s) (by omega), ?_⟩
    rw [List.drop_eq_nil_of_le (by omega)] at hl
    exact hq (.ref D) H' G' (.n acc) xs ⟨D, vacc, rfl, hD, rD, nDH, gD⟩ hl
section
variable {X : Cx} {W : WX} {elt tg iter : Expr} {ifs : List Expr} {scope : Scope} {own : List (Str × Nat)} {is : List Nat} {di : DI} {dg : DG} {dt : DT} {de : DE} {pos : Pos}
/-- one reading for all the contexts of a block -/
theorem blk_e {F : Type} {Y : F → Cx} {mg : MG} {W : WX} {e : Expr} {δ : DE} (hm : ∀ f, (Y f).mg = mg) (hk : ∀ f, (Y f).K = K) (h : ∀ f, ME (Y f) W e δ) : ∃ t, (∀ f, PE (Y f) e t) ∧ EOk K mg W t δ := by
  refine ⟨fun σ H Q => ∀ f t, PE (Y f) e t → EOk K mg W t δ → t σ H Q, fun f => ?_, fun H0 G0 G ρ σ H Q κ ε R h1 hq hx f t _ ok => ok H0 G0 G ρ σ H Q κ ε R h1 hq hx⟩
  obtain ⟨t, pe, ok⟩ := h f
  rw [hm f, hk f] at ok
  exact ⟨fun pins s σ H Q I q => pe.run pins s σ H Q I (q f t pe ok)⟩
theorem blk_t {F : Type} {Y : F → Cx} {mg : MG} {W : WX} {es : List Expr} {δ : DT} (hm : ∀ f, (Y f).mg = mg) (hk : ∀ f, (Y f).K = K) (h : ∀ f, MTs (Y f) W es δ) : ∃ t, (∀ f, PTs (Y f) es t) ∧ TOk K mg W t δ := by
  refine ⟨fun σ H Q => ∀ f t, PTs (Y f) es t → TOk K mg W t δ → t σ H Q, fun f => ?_, fun H0 G0 G ρ σ H Q κ ε R h1 hq hx f t _ ok => ok H0 G0 G ρ σ H Q κ ε R h1 hq hx⟩
  obtain ⟨t, pe, ok⟩ := h f
  rw [hm f, hk f] at ok
  exact ⟨fun pins s σ H Q I q => pe.run pins s σ H Q I (q f t pe ok)⟩
theorem blk_g {F : Type} {Y : F → Cx} {e : Expr} {is : List Nat} {γ : DG} (hk : ∀ f, (Y f).K = K) (h : ∀ f, MG1 (Y f) e is γ) : ∃ t, (∀ f, PG (Y f) e t) ∧ GOk K t is γ := by
  refine ⟨fun v σ H Q => ∀ f t, PG (Y f) e t → GOk K t is γ → t v σ H Q, fun f => ?_, fun H0 G0 Gs G ρ σ Hs H r v Q κ R x hr hg hq f t _ ok => ok H0 G0 Gs G ρ σ Hs H r v Q κ R x hr hg hq⟩
  obtain ⟨t, pe, ok⟩ := h f
  rw [hk f] at ok
  exact ⟨fun pins s σ H v u Q I ru q => pe.run pins s σ H v u Q I ru (q f t pe ok)⟩
abbrev BlkT := Shared × Hp × Addr × List (Str × Addr) × List Addr
abbrev blkX (X : Cx) (scope : Scope) (f : BlkT) : Cx := X.blk f.1 f.2.1 scope (compEnvC scope f.2.2.2.1 f.2.2.1 X.env) f.2.2.2.2
theorem lc_all {k : Nat} (C : Cn X W k) (hi : MI X W true tg iter di) (hv : ∀ i ∈ is, i ∈ own.map (·.2))
    (hg : ∀ f, MG1 (blkX X scope f) tg is dg) (ht : ∀ f, MTs (blkX X scope f) W0 ifs dt) (he : ∀ f, ME (blkX X scope f) W0 elt de) :
    ∃ wi g tt te, PI X tg iter wi ∧ (∀ s H C cl fp, PG (X.blk s H scope (compEnvC scope cl C X.env) fp) tg g) ∧ (∀ s H C cl fp, PTs (X.blk s H scope (compEnvC scope cl C X.env) fp) ifs tt) ∧ (∀ s H C cl fp, PE (X.blk s H scope (compEnvC scope cl C X.env) fp) elt te) ∧
      EOk X.K X.mg W (tLc wi g tt te (own.map (·.2))) (dLc di dg dt de (own.map (·.2))) := by
  obtain ⟨wi, pi, oi⟩ := hi
  obtain ⟨g, pg, og⟩ := blk_g (K := X.K) (Y := blkX X scope) (fun _ => rfl) hg
  obtain ⟨tt, pt, ot⟩ := blk_t (K := X.K) (Y := blkX X scope) (mg := X.mg) (fun _ => rfl) (fun _ => rfl) ht
  obtain ⟨te, pe, oe⟩ := blk_e (K := X.K) (Y := blkX X scope) (mg := X.mg) (fun _ => rfl) (fun _ => rfl) he
  exact ⟨wi, g, tt, te, pi, fun s H C cl fp => pg (s, H, C, cl, fp), fun s H C cl fp => pt (s, H, C, cl, fp), fun s H C cl fp => pe (s, H, C, cl, fp), eok_lc oi og ot oe hv⟩
theorem me_lc {k : Nat} (C : Cn X W k) (hi : MI X W true tg iter di) (ok : BlkOk X.N X.env.scope scope own) (hg : ∀ f, MG1 (blkX X scope f) tg is dg) (ht : ∀ f, MTs (blkX X scope f) W0 ifs dt) (he : ∀ f, ME (blkX X scope f) W0 elt de)
    (hv : ∀ i ∈ is, i ∈ own.map (·.2) := by decide) (hs : ∀ x, foldedSetIterable iter X.env x = pure x := by intro _; rfl) : ME X W (.ListComp elt [⟨tg, iter, ifs, 0⟩] scope pos) (dLc di dg dt de (own.map (·.2))) := by
  obtain ⟨wi, g, tt, te, h1, h2, h3, h4, h5⟩ := lc_all C hi hv hg ht he
  exact ⟨_, pe_lc C.hc C.nd h1 ok h2 h3 h4 hs, h5⟩
/-- y = [..] -/
theorem ms_setLc {k : Nat} (i : Nat) {y : Str} {py spos : Pos} (C : Cn X W k) (hi : MI X W true tg iter di) (ok : BlkOk X.N X.env.scope scope own) (hg : ∀ f, MG1 (blkX X scope f) tg is dg) (ht : ∀ f, MTs (blkX X scope f) W0 ifs dt) (he : ∀ f, ME (blkX X scope f) W0 elt de)
    (hsw : swapsWith (.ListComp elt [⟨tg, iter, ifs, 0⟩] scope pos) (some (.Name y py)) spos.line X.env = pure true) (hy : X.N[i]? = some y := by rfl) (hyl : X.env.scope.names.lookup y = some .local := by rfl) (hv : ∀ i ∈ is, i ∈ own.map (·.2) := by decide) (hs : ∀ x, foldedSetIterable iter X.env x = pure x := by intro _; rfl) :
    MS X W (.Assign [.Name y py] (.ListComp elt [⟨tg, iter, ifs, 0⟩] scope pos) spos) (sAsg (dLc di dg dt de (own.map (·.2))) (gN i)) := by
  obtain ⟨wi, g, tt, te, h1, h2, h3, h4, h5⟩ := lc_all C hi hv hg ht he
  refine ⟨_, ps_setLc C.hc C.nd hy hyl hsw h1 ok h2 h3 h4 hs, fun H0 G0 G ρ σ H D κ R h E => ?_⟩
  refine h5 H0 G0 G ρ σ H _ _ _ R h (fun v H' G' r x hr k => ?_) (E.xok R)
  unfold gN at k
  split at k
  · rename_i s e
    exact E.nx _ _ _ _ (R.store x hr e i) k
  · exact k.elim
end

/-! ### calls of the text's own defs -/
/-- what a def does, over data: the arguments, what is wanted of the value, of an exception's class -/
abbrev Fsp := List Dat → (Rv → Prop) → (Str → Prop) → Prop
/-- an argument is handed over: to be kept (true), to be read (false) -/
def arg1 : Bool → Rv → Option Dat
  | true, r => frz1 r
  | false, r => some r.dat
def conv : List Bool → List Rv → Option (List Dat)
  | [], [] => some []
  | m :: ms, r :: rs => match arg1 m r, conv ms rs with
    | some d, some ds => some (d :: ds)
    | _, _ => none
  | _, _ => none
def ArgR (K : PySem.W.Frag) (G H : Hp) (m : Bool) (d : Dat) (v : V) : Prop := match m with
  | true => RdD K G d v
  | false => RdD K G d v ∨ ∃ l vs es, d = .lst es ∧ v = .ref l ∧ SqL K H l vs ∧ RdL K G es vs
def ArgsR (K : PySem.W.Frag) (G H : Hp) : List Bool → List Dat → List V → Prop
  | [], ds, vs => ds = [] ∧ vs = []
  | m :: ms, ds, vs => ∃ d e v w, ds = d :: e ∧ vs = v :: w ∧ ArgR K G H m d v ∧ ArgsR K G H ms e w
def spOf (K : PySem.W.Frag) (mg : MG) (ms : List Bool) (S : Fsp) : Sp := fun vs H Q E => ∃ G ds, Same G H ∧ ArgsR K G H ms ds vs ∧ ∃ κ ε, S ds κ ε ∧ (∀ v H' G' r, Ext H G H' G' → RvR K H G' H H' r v → retOk r = true → κ r → Q v H') ∧
  (∀ nm cls H' G', Ext H G H' G' → mg nm = some cls → ε nm → E cls none H')
theorem ArgR.mono {G G' H : Hp} (s : Same G G') {m : Bool} {d : Dat} {v : V} (h : ArgR K G H m d v) : ArgR K G' H m d v := by
  cases m with
  | true => exact RdD.mono s _ _ h
  | false =>
    rcases h with h | ⟨l, us, es, a, b, c, f⟩
    · exact .inl (RdD.mono s _ _ h)
    · exact .inr ⟨l, us, es, a, b, c, f.mono s⟩
theorem ArgsR.mono {G G' H : Hp} (s : Same G G') : ∀ {ms : List Bool} {ds : List Dat} {vs : List V}, ArgsR K G H ms ds vs → ArgsR K G' H ms ds vs
  | [], _, _, h => h
  | m :: ms, ds, vs, h => by
    obtain ⟨d, e, v, w, h1, h2, h3, h4⟩ := h
    exact ⟨d, e, v, w, h1, h2, h3.mono s, ArgsR.mono s h4⟩
theorem arg1_ok {H0 G G1 H Gs H' : Hp} {m : Bool} {r : Rv} {v : V} {d : Dat} (s0 : Same H0 H') (s1 : Same G G1) (x : Ext H Gs H' G1) (h : RvR K H0 G H H' r v) (e : arg1 m r = some d) : ∃ G', Ext H Gs H' G' ∧ Same G1 G' ∧ ArgR K G' H' m d v := by
  cases m with
  | true => exact frz1_ok s1 x h e
  | false =>
    have e : some r.dat = some d := e
    injection e with e
    subst e
    refine ⟨G1, x, Same.refl _, ?_⟩
    cases r with
    | v d => exact .inl (RdD.mono s1 _ _ h)
    | n ds => obtain ⟨l, vs, a, b, c, _⟩ := h; exact .inr ⟨l, vs, ds, rfl, a, sq_of b, c.mono s1⟩
    | b ds => obtain ⟨l, vs, a, b, c⟩ := h; exact .inr ⟨l, vs, ds, rfl, a, rd_mono s0 b, c.mono s1⟩
    | o ds => obtain ⟨l, vs, a, b, c⟩ := h; exact .inr ⟨l, vs, ds, rfl, a, sq_of b, c.mono s1⟩
theorem conv_ok {H0 G H Gs H' : Hp} (s0 : Same H0 H') (x : Ext H Gs H' G) : ∀ (ms : List Bool) (rs : List Rv) (vs : List V) (ds : List Dat), RvsR K H0 G H H' rs vs → conv ms rs = some ds → ∃ G', Ext H Gs H' G' ∧ Same G G' ∧ ArgsR K G' H' ms ds vs := by
  intro ms
  induction ms with
  | nil =>
    intro rs vs ds h e
    cases rs with
    | nil => injection e with e; subst e; exact ⟨G, x, Same.refl _, rfl, h⟩
    | cons r rs => exact nomatch e
  | cons m ms ih =>
    intro rs vs ds h e
    cases rs with
    | nil => exact nomatch e
    | cons r rs =>
      obtain ⟨v, w, rfl, h1, h2⟩ := h
      unfold conv at e
      split at e
      · rename_i d es e1 e2
        injection e with e; subst e
        obtain ⟨G1, x1, s1, r1⟩ := ih rs w es h2 e2
        obtain ⟨G2, x2, s2, r2⟩ := arg1_ok s0 s1 x1 h1 e1
        exact ⟨G2, x2, s1.trans s2, d, es, v, w, rfl, rfl, r2, r1.mono s2⟩
      · exact nomatch e
def dCall (ms : List Bool) (S : Fsp) (a : DA) : DE := fun ρ κ ε => a ρ (fun rs => match conv ms rs with
  | some ds => S ds κ ε
  | none => False) ε
end DL
namespace DL
open PySem PySem.Spec PyProof.Rows L2
variable {K : PySem.W.Frag}

theorem sp_run {mg : MG} {W : WX} {H0 G H G1 H1 : Hp} {σ : L2.St} {ms : List Bool} {S : Fsp} {rs : List Rv} {vs : List V} {ds : List Dat} {κ : Rv → Prop} {ε : Str → Prop} {Q : VK} (s0 : Same H0 H1) (x1 : Ext H G H1 G1) (h : RvsR K H0 G1 H H1 rs vs) (e : conv ms rs = some ds) (k : S ds κ ε)
    (hq : ∀ v H' G' r, Ext H G H' G' → RvR K H0 G' H H' r v → κ r → Q v H') (hx : XOk mg W H G σ ε) : spOf K mg ms S vs H1 Q (WE W σ) := by
  obtain ⟨G2, x2, s2, r2⟩ := conv_ok s0 x1 ms rs vs ds h e
  refine ⟨G2, ds, x2.s, r2, κ, ε, k, fun v H' G' r x hr ok kr => ?_, fun nm cls H' G' x h1 h2 => hx nm cls H' G' (x2.trans x) h1 h2⟩
  refine hq v H' G' r (x2.trans x) ?_ kr
  cases r with
  | v d => exact hr
  | n ds => obtain ⟨l, vs, a, b, c, n, g⟩ := hr; exact ⟨l, vs, a, b, c, x2.h.free n, g⟩
  | b ds => exact nomatch ok
  | o ds => exact nomatch ok
section
variable {X : Cx} {W : WX} {e : Expr} {es : List Expr} {da : DA} {x : Str} {p pos : Pos} {f : Addr} {fd : FuncData} {ps : List Str} {ms : List Bool} {S : Fsp} {k j : Nat}
theorem me_call (C : Cn X W k) (F : FnOk X.prog X.w X.K X.mg X.base (L2.CX X.prog X.w) j f fd ps (spOf X.K X.mg ms S)) (hm : X.mg x = some (.ref f)) (hk : PySem.W.keepIn X.K (.ref f) = true) (hb : Binds X.K fd ps []) (ha : MA X W (e :: es) da) (hj : j ≤ k := by decide) (hg : Gl X x := by rfl)
    (hdb : (x == ("__debug__" : Str)) = false := by decide) (he : starEach (e :: es) X.env = (false, eval e X.env) :: starEach es X.env := by rfl) (hpl : (backTo pos (starEach es X.env)).any (·.1) = false := by rfl) :
    ME X W (.Call (.Name x p) (e :: es) [] pos) (dCall ms S da) := by
  obtain ⟨t, pa, oa⟩ := ha
  refine ⟨_, pe_callS F (C.hr.mono hj) hg hm hk hb (fun σ => passAt C.tk σ) pa hdb he hpl, fun H0 G0 G ρ σ H Q κ ε R h hq hx => ?_⟩
  refine oa H0 G0 G ρ σ H _ _ ε R h (fun vs H1 G1 rs x1 hr k1 => ?_) hx
  split at k1
  · rename_i ds ed
    exact sp_run (R.on x1).ext.h x1 hr ed k1 hq hx
  · exact k1.elim
end

/-! ### a def by its body -/
def startSl : List Bool → List Dat → List Sl
  | m :: ms, d :: ds => (if m = true then Sl.fz d else match d with
    | .lst es => Sl.br es
    | d => Sl.fz d) :: startSl ms ds
  | _, _ => []
theorem start_rel {H G : Hp} (s : Same G H) : ∀ {ms : List Bool} {ds : List Dat} {vs : List V}, ArgsR K G H ms ds vs → (startSl ms ds).length = vs.length ∧ ∀ (i : Nat) (t : Sl), (startSl ms ds)[i]? = some t → SlR K H G H t ((vs.map some)[i]?) ∧ ∀ es, t ≠ .ow es
  | [], ds, vs, h => by
    obtain ⟨rfl, rfl⟩ := h
    exact ⟨rfl, fun i t h => by simp [startSl] at h⟩
  | m :: ms, ds, vs, h => by
    obtain ⟨d, e, v, w, rfl, rfl, h3, h4⟩ := h
    obtain ⟨ih1, ih2⟩ := start_rel s h4
    refine ⟨by unfold startSl; rw [List.length_cons, List.length_cons, ih1], fun i t ht => ?_⟩
    cases i with
    | succ i =>
      unfold startSl at ht
      have := ih2 i t (by simpa using ht)
      simpa using this
    | zero =>
      unfold startSl at ht
      simp only [List.getElem?_cons_zero, Option.some.injEq] at ht
      cases m with
      | true =>
        rw [if_pos rfl] at ht
        subst ht
        exact ⟨⟨v, rfl, h3⟩, fun es => fun z => nomatch z⟩
      | false =>
        rw [if_neg Bool.false_ne_true] at ht
        have h3 : RdD K G d v ∨ ∃ l vs es, d = .lst es ∧ v = .ref l ∧ SqL K H l vs ∧ RdL K G es vs := h3
        by_cases hd : ∃ es, d = .lst es
        · obtain ⟨es, rfl⟩ := hd
          subst ht
          refine ⟨?_, fun es => fun z => nomatch z⟩
          rcases h3 with h3 | ⟨l, us, es', a, b, c, f⟩
          · unfold RdD at h3
            obtain ⟨a, us, e1, e2, e3⟩ := h3
            exact ⟨a, us, by rw [e1]; rfl, rd_mono s e2, e3⟩
          · cases a
            exact ⟨l, us, by rw [b]; rfl, c, f⟩
        · have ht' : t = .fz d := by
            rw [← ht]
            cases d with
            | lst es => exact absurd ⟨es, rfl⟩ hd
            | _ => rfl
          subst ht'
          refine ⟨⟨v, rfl, ?_⟩, fun es => fun z => nomatch z⟩
          rcases h3 with h3 | ⟨l, us, es', a, _⟩
          · exact h3
          · exact absurd ⟨es', a⟩ hd
theorem args_len {G H : Hp} : ∀ {ms : List Bool} {ds : List Dat} {vs : List V}, ArgsR K G H ms ds vs → vs.length = ms.length
  | [], ds, vs, h => by
    obtain ⟨rfl, rfl⟩ := h; rfl
  | m :: ms, ds, vs, h => by
    obtain ⟨d, e, v, w, rfl, rfl, h3, h4⟩ := h
    rw [List.length_cons, List.length_cons, args_len h4]
/-- the slots at the entry: n names in all -/
def entry (ms : List Bool) (n : Nat) (ds : List Dat) : List Sl := startSl ms ds ++ List.replicate (n - ms.length) .un
theorem entry_rel {H G : Hp} {ms : List Bool} {ds : List Dat} {vs : List V} {N : List Str} (s : Same G H) (h : ArgsR K G H ms ds vs) : Rel K H G G (entry ms N.length ds) (L2.start N vs) H := by
  obtain ⟨h1, h2⟩ := start_rel s h
  have hl := args_len h
  have at_ : ∀ (i : Nat) (t : Sl), (entry ms N.length ds)[i]? = some t → SlR K H G H t (L2.start N vs)[i]? ∧ ∀ es, t ≠ .ow es := fun i t ht => by
    unfold entry at ht
    unfold L2.start
    by_cases hi : i < (startSl ms ds).length
    · rw [List.getElem?_append_left hi] at ht
      rw [List.getElem?_append_left (by rw [List.length_map, ← h1]; exact hi)]
      exact h2 i t ht
    · rw [List.getElem?_append_right (by omega)] at ht
      rw [List.getElem?_replicate] at ht
      split at ht
      · cases ht; exact ⟨trivial, fun es => fun z => nomatch z⟩
      · exact nomatch ht
  refine ⟨Ext.refl s, ?_, fun i t ht => (at_ i t ht).1, fun i j ds' es l hi hj _ _ => absurd rfl ((at_ i _ hi).2 ds')⟩
  unfold entry L2.start
  rw [List.length_append, List.length_append, List.length_replicate, List.length_replicate, List.length_map, h1, hl]
def endsOf (κ : Rv → Prop) (ε : Str → Prop) : DEnds := { nx := fun _ => κ (.v .non), rt := κ, bk := fun _ => False, ct := fun _ => False, ex := fun nm _ => ε nm }
section
variable {P : Program} {w : World} {K : PySem.W.Frag} {mg : MG} {base : Heap}
/-- what stands around a body -/
abbrev WE0 (E : XK) : WX := fun cls d _ H => E cls d H
theorem fn_dl {x qual : Str} {st : Stmt} {f : Addr} {fd : FuncData} {N ps : List Str} {k : Nat} {ms : List Bool} {S : Fsp} {δ : DS} (F : Fun K x qual st f fd) (sc : FnScope N ps (defScope st)) (hms : ms.length = ps.length)
    (hb : ∀ (cdv : Value) (A : Around) (outer : List Env) (s : Shared) (H : Hp) (E : XK), Cn (cxOf (L2.CX P w) P w K mg base N qual (defScope st) f cdv A outer s H E) (WE0 E) k → MSs (cxOf (L2.CX P w) P w K mg base N qual (defScope st) f cdv A outer s H E) (WE0 E) (defBody st) δ)
    (sem : ∀ ds κ ε, S ds κ ε → δ (endsOf κ ε) (entry ms N.length ds)) : FnOk P w K mg base (L2.CX P w) (k + 1) f fd ps (spOf K mg ms S) := by
  refine F.okX sc (fun vs H Q E ⟨G, ds, _, h, _⟩ => by rw [args_len h, hms]) (fun cdv A outer s H vs Q E hr hsp => ?_)
  obtain ⟨G, ds, s1, h1, κ, ε, hS, hq, hx⟩ := hsp
  have C : Cn (cxOf (L2.CX P w) P w K mg base N qual (defScope st) f cdv A outer s H E) (WE0 E) k := ⟨takes_of rfl rfl rfl rfl, passes_of rfl, rfl, hr, sc.nd⟩
  obtain ⟨t, pt, ot⟩ := hb cdv A outer s H E C
  refine ⟨t, pt, ot H G G _ _ H _ (endsOf κ ε) (entry_rel s1 h1) (sem ds κ ε hS) ?_⟩
  refine ⟨fun ρ σ H' G' R k => ?_, fun _ _ _ _ _ k => k.elim, fun _ _ _ _ _ k => k.elim, fun v H' G' r x hr ok k => hq v H' G' r x hr ok k, fun nm cls ρ σ H' G' R h k => hx nm cls H' G' R.ext h k⟩
  exact hq _ H' G' (.v .non) R.ext (by show RdD K _ _ _; unfold RdD; rfl) rfl k
end
end DL
namespace DL
open PySem PySem.Spec PyProof.Rows L2
variable {K : PySem.W.Frag}

/-! ### built-in functions -/
def OpA (K : PySem.W.Frag) (r : List V → Hp → VK → Prop) (k : List Rv → (Rv → Prop) → Prop) : Prop :=
  ∀ (H0 G Hs H : Hp) (rs : List Rv) (vs : List V) (Q : VK) (κ : Rv → Prop), Same G H → Same H0 H → Same Hs H → RvsR K H0 G Hs H rs vs → k rs κ →
    (∀ w H' G' z, Ext H G H' G' → RvR K H0 G' H H' z w → κ z → Q w H') → r vs H Q
def dB (k : List Rv → (Rv → Prop) → Prop) (a : DA) : DE := fun ρ κ ε => a ρ (fun rs => k rs κ) ε
theorem eok_B {mg : MG} {W : WX} {t : TA} {a : DA} {r : List V → Hp → VK → Prop} {k : List Rv → (Rv → Prop) → Prop} (hr : OpA K r k) (ha : AOk K mg W t a) : EOk K mg W (tCB r t) (dB k a) := by
  intro H0 G0 G ρ σ H Q κ ε R h hq hx
  refine ha H0 G0 G ρ σ H _ _ ε R h (fun vs H1 G1 rs x1 h1 k1 => ?_) hx
  exact hr H0 G1 H H1 rs vs Q κ x1.s (R.on x1).ext.h x1.h h1 k1 fun w H' G' z x2 h2 k2 => hq w H' G' z (x1.trans x2) (h2.back x1.h) k2
section
variable {X : Cx} {W : WX} {x : Str} {p pos : Pos} {e : Expr} {es : List Expr} {da : DA} {id T : String} {r : List V → Hp → VK → Prop} {k : List Rv → (Rv → Prop) → Prop}
theorem me_B (hc : CallR X (.builtin id) r) (hr : OpA X.K r k) (hv : bootBuiltins x = some (.builtin id)) (hm : X.mg x = none) (ha : MA X W (e :: es) da) (hg : Gl X x := by rfl) (hn : x ≠ "__name__" := by decide) (hdb : (x == ("__debug__" : Str)) = false := by decide)
    (he : starEach (e :: es) X.env = (false, eval e X.env) :: starEach es X.env := by rfl) (hpl : (backTo pos (starEach es X.env)).any (·.1) = false := by rfl) : ME X W (.Call (.Name x p) (e :: es) [] pos) (dB k da) := by
  obtain ⟨t, pa, oa⟩ := ha
  exact ⟨_, pe_callB hc hg hm hv pa hn hdb he hpl, eok_B hr oa⟩
theorem me_Ty (hc : CallR X (.type T) r) (hr : OpA X.K r k) (hv : bootBuiltins x = some (.type T)) (hm : X.mg x = none) (ha : MA X W (e :: es) da) (hg : Gl X x := by rfl) (hn : x ≠ "__name__" := by decide) (hdb : (x == ("__debug__" : Str)) = false := by decide)
    (he : starEach (e :: es) X.env = (false, eval e X.env) :: starEach es X.env := by rfl) (hpl : (backTo pos (starEach es X.env)).any (·.1) = false := by rfl) : ME X W (.Call (.Name x p) (e :: es) [] pos) (dB k da) := by
  obtain ⟨t, pa, oa⟩ := ha
  exact ⟨_, pe_callTy hc hg hm hv pa hn hdb he hpl, eok_B hr oa⟩
end
theorem rvs1 {H0 G Hs H : Hp} {x : Rv} {vs : List V} (h : RvsR K H0 G Hs H [x] vs) : ∃ v, vs = [v] ∧ RvR K H0 G Hs H x v := by
  obtain ⟨v, w, rfl, a, b⟩ := h
  have b : w = [] := b
  subst b
  exact ⟨v, rfl, a⟩
theorem rvs2 {H0 G Hs H : Hp} {x y : Rv} {vs : List V} (h : RvsR K H0 G Hs H [x, y] vs) : ∃ v u, vs = [v, u] ∧ RvR K H0 G Hs H x v ∧ RvR K H0 G Hs H y u := by
  obtain ⟨v, w, rfl, a, b⟩ := h
  obtain ⟨u, rfl, c⟩ := rvs1 b
  exact ⟨v, u, rfl, a, c⟩
theorem rvI {H0 G Hs H : Hp} {i : Int} {v : V} (h : RvR K H0 G Hs H (.v (.int i)) v) : v = .int i := by
  have h : RdD K G (.int i) v := h
  unfold RdD at h; exact h
theorem rvB {H0 G Hs H : Hp} {i : Bool} {v : V} (h : RvR K H0 G Hs H (.v (.bl i)) v) : v = .bl i := by
  have h : RdD K G (.bl i) v := h
  unfold RdD at h; exact h
theorem toI {H0 G Hs H : Hp} {i : Int} : RvR K H0 G Hs H (.v (.int i)) (.int i) := by show RdD K _ _ _; unfold RdD; rfl
theorem toB {H0 G Hs H : Hp} {i : Bool} : RvR K H0 G Hs H (.v (.bl i)) (.bl i) := by show RdD K _ _ _; unfold RdD; rfl
/-- a list or a tuple, read -/
theorem rvQ {K : PySem.W.Frag} {H0 G Hs H : Hp} {r : Rv} {v : V} {ds : List Dat} (s : Same G H) (s0 : Same H0 H) (h : RvR K H0 G Hs H r v) (e : r.dat = .lst ds ∨ r.dat = .tup ds) : ∃ l vs, v = .ref l ∧ (SqL K H l vs ∨ SqT K H l vs) ∧ RdL K G ds vs := by
  rcases e with e | e
  · obtain ⟨l, vs, a, b, c⟩ := h.lst s s0 e
    exact ⟨l, vs, a, .inl b, c⟩
  · cases r with
    | v d0 =>
      have e : d0 = .tup ds := e
      subst e
      have h : RdD K G (.tup ds) v := h
      unfold RdD at h
      obtain ⟨l, vs, a, b, c⟩ := h
      exact ⟨l, vs, a, .inr (SqT.of (s _ _ b)), c⟩
    | n _ => exact nomatch e
    | b _ => exact nomatch e
    | o _ => exact nomatch e
def kLen : List Rv → (Rv → Prop) → Prop := fun rs κ => match rs with
  | [x] => asQ x fun ds => κ (.v (.int (ds.length : Int)))
  | _ => False
def kAbs : List Rv → (Rv → Prop) → Prop := fun rs κ => match rs with
  | [x] => asI x fun i => κ (.v (.int (if i < 0 then -i else i)))
  | _ => False
def kMax2 : List Rv → (Rv → Prop) → Prop := fun rs κ => match rs with
  | [x, y] => asI x fun i => asI y fun j => κ (.v (.int (if j > i then j else i)))
  | _ => False
def kMin2 : List Rv → (Rv → Prop) → Prop := fun rs κ => match rs with
  | [x, y] => asI x fun i => asI y fun j => κ (.v (.int (if j < i then j else i)))
  | _ => False
def kInt1 : List Rv → (Rv → Prop) → Prop := fun rs κ => match rs with
  | [.v (.int i)] => κ (.v (.int i))
  | [.v (.bl k)] => κ (.v (.int (if k then 1 else 0)))
  | _ => False
def kList : List Rv → (Rv → Prop) → Prop := fun rs κ => match rs with
  | [x] => asQ x fun ds => κ (.n ds)
  | _ => False
def kDivmod : List Rv → (Rv → Prop) → Prop := fun rs κ => match rs with
  | [x, y] => asI x fun i => asI y fun j => DivP i j ∧ κ (.v (.tup [.int (i / j), .int (i % j)]))
  | _ => False
section
variable {X : Cx}
theorem opa_len {K : PySem.W.Frag} : OpA K (fun xs H Q => ∃ p ys, xs = [.ref p] ∧ (SqL K H p ys ∨ SqT K H p ys) ∧ Q (.int ys.length) H) kLen := by
  intro H0 G Hs H rs vs Q κ s s0 sh h k q
  unfold kLen at k
  split at k
  · obtain ⟨v, rfl, h1⟩ := rvs1 h
    obtain ⟨ds, e, k1⟩ := asQ.of k
    obtain ⟨l, us, rfl, a, b⟩ := rvQ (K := K) s s0 h1 e
    exact ⟨l, us, rfl, a, by rw [← b.len]; exact q _ H G (.v (.int _)) (Ext.refl s) toI k1⟩
  · exact k.elim
theorem opa_list {K : PySem.W.Frag} : OpA K (fun xs H Q => ∃ p ys, xs = [.ref p] ∧ (SqL K H p ys ∨ SqT K H p ys) ∧ ∀ l, H l = none → Q (.ref l) (upd H l (.lst ys))) kList := by
  intro H0 G Hs H rs vs Q κ s s0 sh h k q
  unfold kList at k
  split at k
  · obtain ⟨v, rfl, h1⟩ := rvs1 h
    obtain ⟨ds, e, k1⟩ := asQ.of k
    obtain ⟨l, us, rfl, a, b⟩ := rvQ (K := K) s s0 h1 e
    exact ⟨l, us, rfl, a, fun p np => q _ _ _ (.n ds) (Ext.newH s np) ⟨p, us, rfl, upd_same, b, np, s.free np⟩ k1⟩
  · exact k.elim
theorem opa_abs : OpA K (fun xs H Q => ∃ i, xs = [.int i] ∧ Q (.int (if i < 0 then -i else i)) H) kAbs := by
  intro H0 G Hs H rs vs Q κ s s0 sh h k q
  unfold kAbs at k
  split at k
  · obtain ⟨v, rfl, h1⟩ := rvs1 h
    obtain ⟨i, rfl, k1⟩ := asI.of k
    exact ⟨i, by rw [rvI h1], q _ H G (.v (.int _)) (Ext.refl s) toI k1⟩
  · exact k.elim
theorem opa_max2 : OpA K (fun xs H Q => ∃ i j, xs = [.int i, .int j] ∧ Q (.int (if j > i then j else i)) H) kMax2 := by
  intro H0 G Hs H rs vs Q κ s s0 sh h k q
  unfold kMax2 at k
  split at k
  · obtain ⟨v, u, rfl, h1, h2⟩ := rvs2 h
    obtain ⟨i, rfl, k1⟩ := asI.of k
    obtain ⟨j, rfl, k2⟩ := asI.of k1
    exact ⟨i, j, by rw [rvI h1, rvI h2], q _ H G (.v (.int _)) (Ext.refl s) toI k2⟩
  · exact k.elim
theorem opa_min2 : OpA K (fun xs H Q => ∃ i j, xs = [.int i, .int j] ∧ Q (.int (if j < i then j else i)) H) kMin2 := by
  intro H0 G Hs H rs vs Q κ s s0 sh h k q
  unfold kMin2 at k
  split at k
  · obtain ⟨v, u, rfl, h1, h2⟩ := rvs2 h
    obtain ⟨i, rfl, k1⟩ := asI.of k
    obtain ⟨j, rfl, k2⟩ := asI.of k1
    exact ⟨i, j, by rw [rvI h1, rvI h2], q _ H G (.v (.int _)) (Ext.refl s) toI k2⟩
  · exact k.elim
theorem opa_int1 : OpA K (fun xs H Q => (∃ i, xs = [.int i] ∧ Q (.int i) H) ∨ ∃ k, xs = [.bl k] ∧ Q (.int (if k then 1 else 0)) H) kInt1 := by
  intro H0 G Hs H rs vs Q κ s s0 sh h k q
  unfold kInt1 at k
  split at k
  · rename_i i
    obtain ⟨v, rfl, h1⟩ := rvs1 h
    exact .inl ⟨i, by rw [rvI h1], q _ H G (.v (.int _)) (Ext.refl s) toI k⟩
  · rename_i b
    obtain ⟨v, rfl, h1⟩ := rvs1 h
    exact .inr ⟨b, by rw [rvB h1], q _ H G (.v (.int _)) (Ext.refl s) toI k⟩
  · exact k.elim
theorem opa_divmod : OpA K (fun xs H Q => ∃ i j, xs = [.int i, .int j] ∧ CDivP i j ∧ ∀ p, H p = none → Q (.ref p) (upd H p (.tup [.int (i / j), .int (i % j)]))) kDivmod := by
  intro H0 G Hs H rs vs Q κ s s0 sh h k q
  unfold kDivmod at k
  split at k
  · obtain ⟨v, u, rfl, h1, h2⟩ := rvs2 h
    obtain ⟨i, rfl, k1⟩ := asI.of k
    obtain ⟨j, rfl, k2, k3⟩ := asI.of k1
    refine ⟨i, j, by rw [rvI h1, rvI h2], ⟨k2.1, PyProof.noPylong_of_log2 k2.2⟩, fun p np => ?_⟩
    refine q _ _ _ (.v (.tup _)) (Ext.newG (o := .tup _) s np) ?_ k3
    show RdD K _ _ _
    unfold RdD
    exact ⟨p, _, rfl, upd_same, RdL.cons (by unfold RdD; rfl) (RdL.cons (by unfold RdD; rfl) RdL.nil)⟩
  · exact k.elim
variable {W : WX} {p pos : Pos} {e : Expr} {es : List Expr} {da : DA}
theorem me_len (hm : X.mg "len" = none) (ha : MA X W (e :: es) da) (hg : Gl X "len" := by rfl) (he : starEach (e :: es) X.env = (false, eval e X.env) :: starEach es X.env := by rfl) (hpl : (backTo pos (starEach es X.env)).any (·.1) = false := by rfl) : ME X W (.Call (.Name "len" p) (e :: es) [] pos) (dB kLen da) :=
  me_B call_len_seq opa_len PySem.boot_len hm ha hg (by decide) (by decide) he hpl
theorem me_abs (hm : X.mg "abs" = none) (ha : MA X W (e :: es) da) (hg : Gl X "abs" := by rfl) (he : starEach (e :: es) X.env = (false, eval e X.env) :: starEach es X.env := by rfl) (hpl : (backTo pos (starEach es X.env)).any (·.1) = false := by rfl) : ME X W (.Call (.Name "abs" p) (e :: es) [] pos) (dB kAbs da) :=
  me_B call_abs opa_abs (by decide +kernel) hm ha hg (by decide) (by decide) he hpl
theorem me_max2 (hc : X.calm = true) (hm : X.mg "max" = none) (ha : MA X W (e :: es) da) (hg : Gl X "max" := by rfl) (he : starEach (e :: es) X.env = (false, eval e X.env) :: starEach es X.env := by rfl) (hpl : (backTo pos (starEach es X.env)).any (·.1) = false := by rfl) : ME X W (.Call (.Name "max" p) (e :: es) [] pos) (dB kMax2 da) :=
  me_B (call_max2 hc) opa_max2 (by decide +kernel) hm ha hg (by decide) (by decide) he hpl
theorem me_min2 (hc : X.calm = true) (hm : X.mg "min" = none) (ha : MA X W (e :: es) da) (hg : Gl X "min" := by rfl) (he : starEach (e :: es) X.env = (false, eval e X.env) :: starEach es X.env := by rfl) (hpl : (backTo pos (starEach es X.env)).any (·.1) = false := by rfl) : ME X W (.Call (.Name "min" p) (e :: es) [] pos) (dB kMin2 da) :=
  me_B (call_min2 hc) opa_min2 (by decide +kernel) hm ha hg (by decide) (by decide) he hpl
theorem me_divmod (hm : X.mg "divmod" = none) (ha : MA X W (e :: es) da) (hg : Gl X "divmod" := by rfl) (he : starEach (e :: es) X.env = (false, eval e X.env) :: starEach es X.env := by rfl) (hpl : (backTo pos (starEach es X.env)).any (·.1) = false := by rfl) : ME X W (.Call (.Name "divmod" p) (e :: es) [] pos) (dB kDivmod da) :=
  me_B call_divmodW opa_divmod (by decide +kernel) hm ha hg (by decide) (by decide) he hpl
theorem me_toInt (hm : X.mg "int" = none) (ha : MA X W (e :: es) da) (hg : Gl X "int" := by rfl) (he : starEach (e :: es) X.env = (false, eval e X.env) :: starEach es X.env := by rfl) (hpl : (backTo pos (starEach es X.env)).any (·.1) = false := by rfl) : ME X W (.Call (.Name "int" p) (e :: es) [] pos) (dB kInt1 da) :=
  me_Ty call_int1 opa_int1 (by decide +kernel) hm ha hg (by decide) (by decide) he hpl
theorem me_list (hm : X.mg "list" = none) (ha : MA X W (e :: es) da) (hg : Gl X "list" := by rfl) (he : starEach (e :: es) X.env = (false, eval e X.env) :: starEach es X.env := by rfl) (hpl : (backTo pos (starEach es X.env)).any (·.1) = false := by rfl) : ME X W (.Call (.Name "list" p) (e :: es) [] pos) (dB kList da) :=
  me_Ty call_list_of opa_list (by decide +kernel) hm ha hg (by decide) (by decide) he hpl
end

/-! ### isinstance of built-in types -/
inductive TyN | int | bool | str | list | tuple | dict
def TyN.nm : TyN → String
  | .int => "int" | .bool => "bool" | .str => "str" | .list => "list" | .tuple => "tuple" | .dict => "dict"
def isTy : TyN → Dat → Bool
  | .int, .int _ => true
  | .int, .bl _ => true
  | .bool, .bl _ => true
  | .str, .str _ => true
  | .list, .lst _ => true
  | .tuple, .tup _ => true
  | .dict, .dic _ => true
  | _, _ => false
def tyD : Dat → String
  | .non => "NoneType" | .bl _ => "bool" | .int _ => "int" | .str _ => "str" | .tup _ => "tuple" | .lst _ => "list" | .dic _ => "dict"
inductive Tag | non | bl | int | str | tup | lst | dic
def Tag.of : Dat → Tag
  | .non => .non | .bl _ => .bl | .int _ => .int | .str _ => .str | .tup _ => .tup | .lst _ => .lst | .dic _ => .dic
def Tag.dat : Tag → Dat
  | .non => .non | .bl => .bl true | .int => .int 0 | .str => .str Str.empty | .tup => .tup [] | .lst => .lst [] | .dic => .dic []
theorem kit_tag (T : TyN) (t : Tag) : kitB (tyD t.dat) T.nm = some (isTy T t.dat) := by
  cases T <;> cases t <;> decide +kernel
theorem kit_isTy (T : TyN) (d : Dat) : kitB (tyD d) T.nm = some (isTy T d) := by
  have h := kit_tag T (Tag.of d)
  cases T <;> cases d <;> exact h
theorem rd_ty {K : PySem.W.Frag} {H : Hp} : ∀ (d : Dat) (v : V), RdD K H d v → TyX K H v (.type (tyD d))
  | .non, v, h => by unfold RdD at h; subst h; exact .base .non
  | .bl b, v, h => by unfold RdD at h; subst h; exact .base (.bl b)
  | .int b, v, h => by unfold RdD at h; subst h; exact .base (.int b)
  | .str b, v, h => by unfold RdD at h; subst h; exact .base (.str b)
  | .tup ds, v, h => by
    unfold RdD at h
    obtain ⟨a, vs, rfl, g, _⟩ := h
    exact .base (.tup g)
  | .lst ds, v, h => by
    unfold RdD at h
    obtain ⟨a, vs, rfl, (g | ⟨o, g⟩) | ⟨o, its, n, g, c, _⟩, _⟩ := h
    · exact .base (.lst g)
    · exact .base (.frz g)
    · exact .kList g c
  | .dic ds, v, h => by
    unfold RdD at h
    obtain ⟨a, rfl, g⟩ := h
    exact .base (.dK g)
def dIsi (T : TyN) (a : DE) : DE := fun ρ κ ε => a ρ (fun x => κ (.v (.bl (isTy T x.dat)))) ε
section
variable {X : Cx} {W : WX} {p p2 pos : Pos} {e : Expr} {d : DE}
theorem me_isi (T : TyN) {x : Str} (hv : bootBuiltins x = some (.type T.nm)) (hm : X.mg "isinstance" = none) (hx : X.mg x = none) (h : ME X W e d) (hg : Gl X "isinstance" := by rfl) (hgx : Gl X x := by rfl) (hn : x ≠ "__name__" := by decide) (hdb : (x == ("__debug__" : Str)) = false := by decide)
    (he : starEach [e, .Name x p2] X.env = (false, eval e X.env) :: starEach [.Name x p2] X.env := by rfl) (he2 : starEach [.Name x p2] X.env = (false, eval (.Name x p2) X.env) :: starEach [] X.env := by rfl) (hpl : (backTo pos (starEach [.Name x p2] X.env)).any (·.1) = false := by rfl) :
    ME X W (.Call (.Name "isinstance" p) [e, .Name x p2] [] pos) (dIsi T d) := by
  obtain ⟨t, pa, oa⟩ := h
  refine ⟨_, pe_callB call_isi hg hm PyProof.Rows.boot_isinstance (pa_cons pa (pa_cons (pe_bltn (v := .ty T.nm) hgx hx hv rfl hn hdb) pa_nil he2) he) (by decide) (by decide) he hpl, fun H0 G0 G ρ σ H Q κ ε R h hq hx => ?_⟩
  refine oa H0 G0 G ρ σ H _ _ ε R h (fun v H1 G1 r x1 h1 k1 => ?_) hx
  refine ⟨v, .ty T.nm, .type (tyD r.dat), .type T.nm, isTy T r.dat, rfl, .ty _, rd_ty _ _ (h1.read x1.s (R.on x1).ext.h), kit_ty (kit_isTy T r.dat), ?_⟩
  exact hq _ H1 G1 (.v (.bl _)) x1 toB k1
end
end DL
namespace DL
open PySem PySem.Spec PyProof.Rows L2
variable {K : PySem.W.Frag}

/-- a def of the text that may be called -/
structure Cal (P : Program) (w : World) (K : PySem.W.Frag) (mg : MG) (base : Heap) (j : Nat) (x : Str) (ps : List Str) (ms : List Bool) (S : Fsp) : Prop where
  ex : ∃ f fd, FnOk P w K mg base (L2.CX P w) j f fd ps (spOf K mg ms S) ∧ mg x = some (.ref f) ∧ PySem.W.keepIn K (.ref f) = true ∧ Binds K fd ps []
theorem Cal.mk' {P : Program} {w : World} {K : PySem.W.Frag} {mg : MG} {base : Heap} {j : Nat} {x : Str} {ps : List Str} {ms : List Bool} {S : Fsp} {f : Addr} {fd : FuncData} (F : FnOk P w K mg base (L2.CX P w) j f fd ps (spOf K mg ms S)) (h1 : mg x = some (.ref f)) (h2 : PySem.W.keepIn K (.ref f) = true) (h3 : Binds K fd ps []) : Cal P w K mg base j x ps ms S := ⟨f, fd, F, h1, h2, h3⟩
theorem Cn.blk {X : Cx} {W : WX} {k : Nat} {scope : Scope} {f : BlkT} (C : Cn X W k) : Cn (blkX X scope f) DL.W0 k := ⟨takes0, PassesOwn.never, C.hc, C.hr, C.nd⟩
section
variable {X : Cx} {W : WX} {e : Expr} {es : List Expr} {da : DA} {x : Str} {p pos : Pos} {ps : List Str} {ms : List Bool} {S : Fsp} {k j : Nat}
theorem me_callC (C : Cn X W k) (F : Cal X.prog X.w X.K X.mg X.base j x ps ms S) (ha : MA X W (e :: es) da) (hj : j ≤ k := by decide) (hg : Gl X x := by rfl)
    (hdb : (x == ("__debug__" : Str)) = false := by decide) (he : starEach (e :: es) X.env = (false, eval e X.env) :: starEach es X.env := by rfl) (hpl : (backTo pos (starEach es X.env)).any (·.1) = false := by rfl) :
    ME X W (.Call (.Name x p) (e :: es) [] pos) (dCall ms S da) := by
  obtain ⟨f, fd, F, h1, h2, h3⟩ := F
  exact me_call C F h1 h2 h3 ha hj hg hdb he hpl
end

/-! ### range(a, b, c) -/
theorem itOk_rngC {lo c : Int} {n : Nat} {B G : Hp} : ItOk K (Itc lo c n) ((List.range n).map fun (i : Nat) => Dat.int (lo + (i : Int) * c)) B G := by
  refine ⟨fun i H b g hi => (show i < n by simpa using hi), fun i H b g hi => (show n ≤ i by simpa using hi), fun i H x H' Gc d b g gc hd hy => ?_⟩
  obtain ⟨rfl, rfl⟩ := hy
  refine ⟨Gc, Ext.refl gc, ?_⟩
  rw [List.getElem?_map] at hd
  by_cases hi : i < n
  · rw [List.getElem?_range hi] at hd
    cases hd
    unfold RdD; rfl
  · rw [List.getElem?_eq_none (by simpa using hi)] at hd
    exact nomatch hd
def rngDC (lo c : Int) (n : Nat) : List Dat := (List.range n).map fun (i : Nat) => Dat.int (lo + (i : Int) * c)
def iRng3 (a b c : DE) : DI := fun ρ κ ε => a ρ (fun x => b ρ (fun y => c ρ (fun z => asI x fun i => asI y fun j => asI z fun k => ∃ n, RgC i j k n ∧ κ (rngDC i k n)) ε) ε) ε
section
variable {X : Cx} {W : WX} {tg a b d : Expr} {da db dd : DE} {c : Bool}
theorem mi_rng3 {p pos : Pos} (hm : X.mg "range" = none) (ha : ME X W a da) (hb : ME X W b db) (hd : ME X W d dd) (hg : Gl X "range" := by rfl) (hs : starEach [a, b, d] X.env = (false, eval a X.env) :: starEach [b, d] X.env := by rfl) (hpl : (backTo pos (starEach [b, d] X.env)).any (·.1) = false := by rfl)
    (hs2 : starEach [b, d] X.env = (false, eval b X.env) :: starEach [d] X.env := by rfl) (hs3 : starEach [d] X.env = (false, eval d X.env) :: starEach [] X.env := by rfl) : MI X W c tg (.Call (.Name "range" p) [a, b, d] [] pos) (iRng3 da db dd) := by
  obtain ⟨t, pa, oa⟩ := ha
  obtain ⟨u, pb, ob⟩ := hb
  obtain ⟨w, pd, od⟩ := hd
  refine ⟨_, pi_range3 hg hm (pa_cons pa (pa_cons pb (pa_cons pd pa_nil hs3) hs2) hs) hs hpl, fun H0 G0 G ρ σ H R κ ε RR h hq hx => ?_⟩
  refine oa H0 G0 G ρ σ H _ _ ε RR h (fun v H1 G1 r x1 hr k => ?_) hx
  refine ob H0 G0 G1 ρ σ H1 _ _ ε (RR.on x1) k (fun w H2 G2 z x2 hz k2 => ?_) (hx.on x1)
  refine od H0 G0 G2 ρ σ H2 _ _ ε ((RR.on x1).on x2) k2 (fun w3 H3 G3 z3 x3 hz3 k3 => ?_) ((hx.on x1).on x2)
  obtain ⟨i, rfl, k31⟩ := asI.of k3
  obtain ⟨j, rfl, k32⟩ := asI.of k31
  obtain ⟨l, rfl, n, k4, k5⟩ := asI.of k32
  rw [rvI hr, rvI hz, rvI hz3]
  exact ⟨i, j, l, n, rfl, k4, hq _ H3 G3 _ ((x1.trans x2).trans x3) itOk_rngC k5⟩
end
/-- an upward range's turns -/
def rN (i j c : Int) : Nat := if i < j then ((j - i - 1) / c).toNat + 1 else 0
theorem rgC_up {i j c : Int} (h1 : -(2 ^ 61) ≤ i) (h2 : i < 2 ^ 61) (h3 : -(2 ^ 61) ≤ j) (h4 : j < 2 ^ 61) (hc : 0 < c) (hc2 : c < 1000000) : RgC i j c (rN i j c) := by
  have hs : Builtin.Range.rangeSize i j c = (rN i j c : Int) := by
    unfold Builtin.Range.rangeSize rN
    rw [if_pos hc]
    by_cases h : i < j
    · rw [if_pos h, if_pos h]
      have : 0 ≤ (j - i - 1) / c := Int.ediv_nonneg (by omega) (by omega)
      omega
    · rw [if_neg h, if_neg h]; rfl
  refine ⟨by omega, by omega, ?_, hs⟩
  unfold Builtin.Range.small
  rw [hs]
  simp only [Builtin.Range.rangeFitsLong, Bool.and_eq_true, Bool.or_eq_true, decide_eq_true_eq, beq_iff_eq, if_pos hc]
  have hr : 0 ≤ (rN i j c : Int) ∧ (rN i j c : Int) < 2 ^ 62 := by
    unfold rN
    split
    · rename_i h
      have a1 : (j - i - 1) / c ≤ j - i - 1 := Int.ediv_le_self _ (by omega)
      have a2 : 0 ≤ (j - i - 1) / c := Int.ediv_nonneg (by omega) (by omega)
      omega
    · omega
  refine ⟨⟨⟨⟨by omega, by omega⟩, by omega⟩, by omega⟩, .inr ⟨by omega, by omega⟩⟩
end DL
namespace DL
open PySem PySem.Spec PyProof.Rows L2
variable {K : PySem.W.Frag}

/-! ### exceptions: the classes of the text stand flat under StakeError -/
def exB (a b : Str) : Bool := a == b || b == ("StakeError" : Str)
abbrev veB : List Value := [.type "ValueError", .type "Exception", .type "BaseException", .type "object"]
structure Exn (K : PySem.W.Frag) (C : Addr) : Prop where
  x : PySem.W.excIn K C veB "ValueError.__new__" = true
  k : PySem.W.keepIn K (.ref C) = true
  b : PySem.W.subIn K (.ref C) (.type "BaseException") = some true
  t : PySem.W.typeIn K (.ref C) = some (.type "type")
/-- a class that may be raised -/
def Xr (K : PySem.W.Frag) (mg : MG) (x : Str) : Prop := ∃ C, mg x = some (.ref C) ∧ Exn K C
/-- what an except clause says of a class -/
def Xm (K : PySem.W.Frag) (mg : MG) (a b : Str) (r : Bool) : Prop := ∃ C D, mg a = some (.ref C) ∧ mg b = some (.ref D) ∧ PySem.W.exmOne K (.ref C) (.ref D) = some r
/-- what isinstance says of a caught one -/
def Xi (K : PySem.W.Frag) (mg : MG) (a b : Str) (r : Bool) : Prop := ∃ C, mg a = some (.ref C) ∧ ExcC K C ∧ ((∃ D, mg b = some (.ref D) ∧ PySem.W.keepIn K (.ref D) = true ∧ PySem.W.kitOne K (.ref C) (.ref D) = some r) ∨
  (mg b = none ∧ bootBuiltins b = some (.type "ValueError") ∧ b = ("ValueError" : Str) ∧ PySem.W.kitOne K (.ref C) (.type "ValueError") = some r))
/-- the facts at hand: rows of names -/
structure Xs (K : PySem.W.Frag) (mg : MG) (ms is : List (Str × Str × Bool)) : Prop where
  m : ∀ p ∈ ms, Xm K mg p.1 p.2.1 p.2.2
  i : ∀ p ∈ is, Xi K mg p.1 p.2.1 p.2.2
def look (l : List (Str × Str × Bool)) (a b : Str) : Option Bool := match l with
  | [] => none
  | p :: r => if (p.1 == a && p.2.1 == b) = true then some p.2.2 else look r a b
theorem look_mem {a b : Str} {r : Bool} : ∀ {l : List (Str × Str × Bool)}, look l a b = some r → (a, b, r) ∈ l
  | [], h => nomatch h
  | p :: l, h => by
    unfold look at h
    split at h
    · rename_i e
      rw [Bool.and_eq_true, beq_iff_eq, beq_iff_eq] at e
      injection h with h
      obtain ⟨p1, p2, p3⟩ := p
      obtain ⟨e1, e2⟩ := e
      dsimp only at e1 e2 h
      subst e1 e2 h
      exact List.mem_cons_self
    · exact List.mem_cons_of_mem _ (look_mem h)
def sRaise (nm : Str) : DS := fun κ ρ => κ.ex nm ρ
section
variable {X : Cx} {W : WX}
theorem ms_raise {x m : Str} {j : Nat} {p p2 p3 pos : Pos} (hc : X.calm = true) (tk : Takes X W) (hx : Xr X.K X.mg x) (hg : Gl X x := by rfl) (hdb : (x == ("__debug__" : Str)) = false := by decide) : MS X W (.Raise (some (.Call (.Name x p) [.Constant (.str m) j p2] [] p3)) none pos) (sRaise x) := by
  obtain ⟨C, hm, hC⟩ := hx
  exact ⟨_, ps_raise hc tk (pmk_own PySem.F.excBase_ValueError hC.x hm hC.k (raises_own hC.b hC.t) hg hdb), fun H0 G0 G ρ σ H D κ R h E => E.ex x _ ρ σ H G R hm h⟩
/-- one reading for all the contexts of a try's body -/
theorem try_b {W0 : WX → Prop} {body : List Stmt} {δ : DS} (hb : ∀ (W : WX) (pn : List (Addr × Obj)) (xe : Value → Shared → Prop), Takes (X.tr pn xe) W → PassesOwn (model X.prog X.w) X.A X.env xe → MSs (X.tr pn xe) W body δ) :
    ∃ tb : WX → TS, (∀ (W : WX) (pn : List (Addr × Obj)) (xe : Value → Shared → Prop), Takes (X.tr pn xe) W → PassesOwn (model X.prog X.w) X.A X.env xe → PSs (X.tr pn xe) body (tb W)) ∧ ∀ W, SOk X.K X.mg W (tb W) δ := by
  refine ⟨fun W D σ H => ∀ pn xe t, Takes (X.tr pn xe) W → PassesOwn (model X.prog X.w) X.A X.env xe → PSs (X.tr pn xe) body t → SOk X.K X.mg W t δ → t D σ H, fun W pn xe tk po => ?_, fun W H0 G0 G ρ σ H D κ R h E pn xe t _ _ _ ok => ok H0 G0 G ρ σ H D κ R h E⟩
  obtain ⟨t, pt, ot⟩ := hb W pn xe tk po
  exact ⟨fun pins s σ H D I q => pt.run pins s σ H D I (q pn xe t tk po pt ot)⟩
end
/-- try: body except x: suite -/
def sTry (ms : List (Str × Str × Bool)) (x : Str) (b s : DS) : DS := fun κ ρ => b { κ with ex := fun nm ρ' => onS (look ms nm x) fun r => if r = true then s κ ρ' else κ.ex nm ρ' } ρ
/-- try: body except x as n: suite -/
def sTryAs (ms : List (Str × Str × Bool)) (x : Str) (i : Nat) (b : DS) (s : Addr → Str → DS) : DS := fun κ ρ => b { κ with ex := fun nm ρ' => onS (look ms nm x) fun r => if r = true then ∀ a, s a nm { κ with nx := fun ρ2 => κ.nx (ρ2.set i .un), bk := fun ρ2 => κ.bk (ρ2.set i .un), ct := fun ρ2 => κ.ct (ρ2.set i .un), ex := fun _ _ => False } (ρ'.set i (.adr a)) else κ.ex nm ρ' } ρ
section
variable {X : Cx} {W : WX} {x n : Str} {body suite : List Stmt} {b₀ : Stmt} {np pos pos' : Pos} {db : DS} {ms is : List (Str × Str × Bool)}
theorem EndsOk.w0 {mg : MG} {W : WX} {H0 G0 : Hp} {D : Ends} {κ : DEnds} (E : EndsOk K mg W H0 G0 D κ) : EndsOk K mg DL.W0 H0 G0 D { κ with ex := fun _ _ => False } :=
  ⟨E.nx, E.bk, E.ct, E.rt, fun _ _ _ _ _ _ _ _ k => k⟩
theorem ms_try {ds : DS} (hs : X.stack = X.env :: X.outer) (hf : X.env.frame = some X.env.locals) (tk : Takes X W) (XX : Xs X.K X.mg ms is) (hx : ∃ C, X.mg x = some (.ref C))
    (hb : ∀ (W : WX) (pn : List (Addr × Obj)) (xe : Value → Shared → Prop), Takes (X.tr pn xe) W → PassesOwn (model X.prog X.w) X.A X.env xe → MSs (X.tr pn xe) W body db)
    (hsu : ∀ (a : Addr) (oe : Obj) (pn : List (Addr × Obj)), MSs (X.suite a ((a, oe) :: pn)) DL.W0 (b₀ :: suite) ds)
    (hg : Gl X x := by rfl) (hdb : (x == ("__debug__" : Str)) = false := by decide) :
    MS X W (.Try body [.ExceptHandler (some (.Name x np)) none (b₀ :: suite) pos'] [] [] pos) (sTry ms x db (fun κ ρ => ds { κ with ex := fun _ _ => False } ρ)) := by
  obtain ⟨C, hx⟩ := hx
  obtain ⟨tb, pb, ob⟩ := try_b (W0 := fun _ => True) hb
  refine ⟨_, ps_try_only (tb := tb) (ts := fun a cls d D σ H => ∀ oe pn t, PSs (X.suite a ((a, oe) :: pn)) (b₀ :: suite) t → SOk X.K X.mg DL.W0 t ds → t D σ H) (Wout := W) hs hf ⟨hg, hdb, .inl hx⟩ tk pb (fun a oe cls d pn hz hfl => ?_), fun H0 G0 G ρ σ H D κ R h E => ?_⟩
  · obtain ⟨t, pt, ot⟩ := hsu a oe pn
    exact ⟨fun pins s σ H D I q => pt.run pins s σ H D I (q oe pn t pt ot)⟩
  · refine ob _ H0 G0 G ρ σ H D _ R h ⟨E.nx, E.bk, E.ct, E.rt, fun nm cls ρ' σ' H' G' R' hm k => ?_⟩
    obtain ⟨r, hr, k⟩ := onS.of k
    obtain ⟨C1, D1, e1, e2, e3⟩ := XX.m _ (look_mem hr)
    have e1 : X.mg nm = some (.ref C1) := e1
    have e2 : X.mg x = some (.ref D1) := e2
    rw [hm] at e1
    rw [hx] at e2
    cases e1
    cases e2
    refine ⟨r, e3, fun hr1 a na oe pn t pt ot => ?_, fun hr0 => ?_⟩
    · rw [if_pos hr1] at k
      exact ot H0 G0 G' ρ' σ' H' D _ R' k E.w0
    · rw [if_neg (by rw [hr0]; exact Bool.false_ne_true)] at k
      exact E.ex nm _ ρ' σ' H' G' R' hm k
theorem Rel.adr {H0 G0 G H : Hp} {ρ : List Sl} {σ : L2.St} (R : Rel K H0 G0 G ρ σ H) (i : Nat) (a : Addr) : Rel K H0 G0 G (ρ.set i (.adr a)) (σ.set i (some (.ref a))) H := by
  refine ⟨R.ext, by rw [List.length_set, List.length_set]; exact R.len, fun j t ht => ?_, fun j k ds es l hj hk lj lk => ?_⟩
  · by_cases hij : i = j
    · subst hij
      by_cases hi : i < ρ.length
      · rw [List.getElem?_set_self hi] at ht
        cases ht
        show (σ.set i (some (V.ref a)))[i]? = _
        rw [List.getElem?_set_self (by rw [← R.len]; exact hi)]
      · rw [List.getElem?_eq_none (by rw [List.length_set]; omega)] at ht
        exact nomatch ht
    · rw [List.getElem?_set_ne hij] at ht ⊢
      exact R.sl j t ht
  · have key : ∀ (j : Nat) (ds : List Dat), (ρ.set i (.adr a))[j]? = some (.ow ds) → i ≠ j := fun j ds h e => by
      subst e
      by_cases hi : i < ρ.length
      · rw [List.getElem?_set_self hi] at h; exact nomatch h
      · rw [List.getElem?_eq_none (by rw [List.length_set]; omega)] at h; exact nomatch h
    have a1 := key j ds hj
    have a2 := key k es hk
    rw [List.getElem?_set_ne a1] at hj lj
    rw [List.getElem?_set_ne a2] at hk lk
    exact R.inj j k ds es l hj hk lj lk
theorem Rel.gone {H0 G0 G H : Hp} {ρ : List Sl} {σ : L2.St} (R : Rel K H0 G0 G ρ σ H) (i : Nat) (v : Option V) : Rel K H0 G0 G (ρ.set i .un) (σ.set i v) H := by
  refine R.weak (by rw [List.length_set]) (by rw [List.length_set]) fun j s h => ?_
  by_cases hij : i = j
  · subst hij
    by_cases hi : i < ρ.length
    · rw [List.getElem?_set_self hi] at h; cases h; exact .inl rfl
    · rw [List.getElem?_eq_none (by rw [List.length_set]; omega)] at h; exact nomatch h
  · rw [List.getElem?_set_ne hij] at h ⊢
    exact .inr ⟨h, rfl⟩
theorem ms_tryAs {ds : Addr → Str → DS} (i : Nat) (hs : X.stack = X.env :: X.outer) (hf : X.env.frame = some X.env.locals) (hN : X.N.Nodup) (tk : Takes X W) (XX : Xs X.K X.mg ms is) (hx : ∃ C, X.mg x = some (.ref C))
    (hb : ∀ (W : WX) (pn : List (Addr × Obj)) (xe : Value → Shared → Prop), Takes (X.tr pn xe) W → PassesOwn (model X.prog X.w) X.A X.env xe → MSs (X.tr pn xe) W body db)
    (hsu : ∀ (a : Addr) (oe : Obj) (cls : Value) (nm : Str) (pn : List (Addr × Obj)), Zc cls none oe → (∃ vs, oe.data = .fields vs) → X.mg nm = some cls → MSs (X.suite a ((a, oe) :: pn)) DL.W0 (b₀ :: suite) (ds a nm))
    (hi : X.N[i]? = some n := by rfl) (hln : X.env.kindOf n = some .local := by rfl) (hg : Gl X x := by rfl) (hdb : (x == ("__debug__" : Str)) = false := by decide) :
    MS X W (.Try body [.ExceptHandler (some (.Name x np)) (some n) (b₀ :: suite) pos'] [] [] pos) (sTryAs ms x i db ds) := by
  obtain ⟨C, hx⟩ := hx
  obtain ⟨tb, pb, ob⟩ := try_b (W0 := fun _ => True) hb
  refine ⟨_, ps_try_as (tb := tb) (i := i) (ts := fun a cls d D σ H => ∃ nm, d = none ∧ X.mg nm = some cls ∧ ∀ oe pn t, Zc cls none oe → (∃ vs, oe.data = .fields vs) → PSs (X.suite a ((a, oe) :: pn)) (b₀ :: suite) t → SOk X.K X.mg DL.W0 t (ds a nm) → t D σ H) (Wout := W) hs hf hN hi hln ⟨hg, hdb, .inl hx⟩ tk pb (fun a oe cls d pn hz hfl => ?_), fun H0 G0 G ρ σ H D κ R h E => ?_⟩
  · refine ⟨fun pins s σ H D I q => ?_⟩
    obtain ⟨nm, rfl, hm, q⟩ := q
    obtain ⟨t, pt, ot⟩ := hsu a oe cls nm pn hz hfl hm
    exact pt.run pins s σ H D I (q oe pn t hz hfl pt ot)
  · refine ob _ H0 G0 G ρ σ H D _ R h ⟨E.nx, E.bk, E.ct, E.rt, fun nm cls ρ' σ' H' G' R' hm k => ?_⟩
    obtain ⟨r, hr, k⟩ := onS.of k
    obtain ⟨C1, D1, e1, e2, e3⟩ := XX.m _ (look_mem hr)
    have e1 : X.mg nm = some (.ref C1) := e1
    have e2 : X.mg x = some (.ref D1) := e2
    rw [hm] at e1
    rw [hx] at e2
    cases e1
    cases e2
    refine ⟨r, e3, fun hr1 a na => ⟨nm, rfl, hm, fun oe pn t hz hfl pt ot => ?_⟩, fun hr0 => ?_⟩
    · rw [if_pos hr1] at k
      refine ot H0 G0 G' _ _ H' _ _ (R'.adr i a) (k a) ⟨fun ρ2 σ2 H2 G2 R2 k2 => ?_, fun ρ2 σ2 H2 G2 R2 k2 => ?_, fun ρ2 σ2 H2 G2 R2 k2 => ?_, E.rt, fun _ _ _ _ _ _ _ _ k => k⟩
      · exact E.nx _ _ H2 G2 (R2.gone i none) k2
      · exact E.bk _ _ H2 G2 (R2.gone i none) k2
      · exact E.ct _ _ H2 G2 (R2.gone i none) k2
    · rw [if_neg (by rw [hr0]; exact Bool.false_ne_true)] at k
      exact E.ex nm _ ρ' σ' H' G' R' hm k
end
/-- isinstance(n, y), n the caught one -/
def dIsx (is : List (Str × Str × Bool)) (a : Addr) (nm : Str) (i : Nat) (y : Str) : DE := fun ρ κ _ => ρ[i]? = some (.adr a) ∧ onS (look is nm y) fun r => κ (.v (.bl r))
section
variable {X : Cx} {W : WX} {n y : Str} {ms is : List (Str × Str × Bool)} {p p1 p2 pos : Pos}
theorem me_isx {a : Addr} {oe : Obj} {cls : Value} {nm : Str} {pn : List (Addr × Obj)} (i : Nat) (XX : Xs X.K X.mg ms is) (hz : Zc cls none oe) (hfl : ∃ vs, oe.data = .fields vs) (hm : X.mg nm = some cls) (hI : X.mg "isinstance" = none)
    (hN : X.N[i]? = some n := by rfl) (hv : Vis X.env.scope n := by first | exact Or.inl rfl | exact Or.inr (Or.inl rfl) | exact Or.inr (Or.inr rfl)) (hd : (n == ("__debug__" : Str)) = false := by decide) (hcd : (n == ("__classdict__" : Str)) = false := by decide)
    (hg : Gl X "isinstance" := by rfl) (hgy : Gl X y := by rfl) (hny : y ≠ "__name__" := by decide) (hdy : (y == ("__debug__" : Str)) = false := by decide)
    (he : starEach [.Name n p1, .Name y p2] X.env = (false, eval (.Name n p1) X.env) :: starEach [.Name y p2] X.env := by rfl) (he2 : starEach [.Name y p2] X.env = (false, eval (.Name y p2) X.env) :: starEach [] X.env := by rfl) (hpl : (backTo pos (starEach [.Name y p2] X.env)).any (·.1) = false := by rfl) :
    ME (X.suite a ((a, oe) :: pn)) W (.Call (.Name "isinstance" p) [.Name n p1, .Name y p2] [] pos) (dIsx is a nm i y) := by
  by_cases hex : ∃ r, look is nm y = some r
  · obtain ⟨r, hr⟩ := hex
    obtain ⟨C, e1, xc, hy⟩ := XX.i _ (look_mem hr)
    have e1 : X.mg nm = some (.ref C) := e1
    rw [hm] at e1
    cases e1
    have go : ∀ {vy : V} {cv : Value}, PE (X.suite a ((a, oe) :: pn)) (.Name y p2) (tC vy) → (∀ u, RelV vy u → u = cv) → PySem.W.kitOne X.K (.ref C) cv = some r → ME (X.suite a ((a, oe) :: pn)) W (.Call (.Name "isinstance" p) [.Name n p1, .Name y p2] [] pos) (dIsx is a nm i y) := fun {vy cv} py hcv hk => by
      refine ⟨_, pe_callB (X := X.suite a ((a, oe) :: pn)) (call_isE xc hz hfl) hg hI PyProof.Rows.boot_isinstance (pa_cons (pe_var (X := X.suite a ((a, oe) :: pn)) hN hv hd hcd) (pa_cons py pa_nil he2) he) (by decide) (by decide) he hpl, fun H0 G0 G ρ σ H Q κ ε R h hq hx => ?_⟩
      obtain ⟨h1, h2⟩ := h
      obtain ⟨r', hr', h2⟩ := onS.of h2
      rw [hr] at hr'
      cases hr'
      exact ⟨.ref a, R.sl _ _ h1, vy, cv, r, rfl, hcv, hk, hq _ H G (.v (.bl _)) (Ext.refl R.ext.s) toB h2⟩
    rcases hy with ⟨D, e2, k2, h2⟩ | ⟨e2, bt, ey, h2⟩
    · exact go (vy := .ref D) (pe_glob (X := X.suite a ((a, oe) :: pn)) hgy e2 rfl hdy) (fun u h => h) h2
    · exact go (vy := .ty "ValueError") (pe_bltn (X := X.suite a ((a, oe) :: pn)) (v := .ty "ValueError") hgy e2 bt rfl hny hdy) (fun u h => h) h2
  · refine ⟨fun _ _ _ => False, ⟨fun pins s σ H Q I q => q.elim⟩, fun H0 G0 G ρ σ H Q κ ε R h hq hx => ?_⟩
    obtain ⟨_, h2⟩ := h
    obtain ⟨r, hr, _⟩ := onS.of h2
    exact absurd ⟨r, hr⟩ hex
end
end DL
namespace DL
open PySem PySem.Spec PyProof.Rows L2
variable {K : PySem.W.Frag}

/-! ### sum, min, max of a list of ints -/
def intsD : List Dat → Option (List Int)
  | [] => some []
  | .int i :: ds => (intsD ds).map (i :: ·)
  | _ => none
theorem intsD_map : ∀ ns : List Int, intsD (ns.map Dat.int) = some ns
  | [] => rfl
  | n :: ns => by
    show (intsD (ns.map Dat.int)).map (n :: ·) = _
    rw [intsD_map ns]; rfl
theorem intsD_of : ∀ {ds : List Dat} {ns : List Int}, intsD ds = some ns → ds = ns.map Dat.int
  | [], ns, h => by cases h; rfl
  | d :: ds, ns, h => by
    cases d with
    | int i =>
      have h : (intsD ds).map (i :: ·) = some ns := h
      obtain ⟨r, e, rfl⟩ := Option.map_eq_some_iff.mp h
      rw [intsD_of e]; rfl
    | _ => exact nomatch h
theorem RdL.toInts {G : Hp} : ∀ {ns : List Int} {vs : List V}, RdL K G (ns.map Dat.int) vs → vs = ns.map V.int
  | [], vs, h => by unfold List.map RdL at h; exact h
  | n :: ns, vs, h => by
    unfold List.map RdL at h
    obtain ⟨v, r, rfl, h1, h2⟩ := h
    unfold RdD at h1
    rw [h1, RdL.toInts h2]; rfl
def kSum : List Rv → (Rv → Prop) → Prop := fun rs κ => match rs with
  | [x] => asL x fun ds => onS (intsD ds) fun ns => κ (.v (.int ns.sum))
  | _ => False
def kMax1 : List Rv → (Rv → Prop) → Prop := fun rs κ => match rs with
  | [x] => asL x fun ds => onS (intsD ds) fun ns => onS ns.max? fun m => κ (.v (.int m))
  | _ => False
def kMin1 : List Rv → (Rv → Prop) → Prop := fun rs κ => match rs with
  | [x] => asL x fun ds => onS (intsD ds) fun ns => onS ns.min? fun m => κ (.v (.int m))
  | _ => False
theorem intsQ {H0 G Hs H : Hp} {x : Rv} {v : V} {ds : List Dat} {ns : List Int} (s : Same G H) (s0 : Same H0 H) (h : RvR K H0 G Hs H x v) (e : x.dat = .lst ds) (e2 : intsD ds = some ns) : ∃ l, v = .ref l ∧ SqL K H l (ns.map V.int) := by
  rw [intsD_of e2] at e
  obtain ⟨l, vs, a, b, c⟩ := h.lst s s0 e
  rw [c.toInts] at b
  exact ⟨l, a, b⟩
section
variable {X : Cx} {W : WX} {p pos : Pos} {e : Expr} {es : List Expr} {da : DA}
theorem opa_sum : OpA K (rSum K) kSum := by
  intro H0 G Hs H rs vs Q κ s s0 sh h k q
  unfold kSum at k
  split at k
  · obtain ⟨v, rfl, h1⟩ := rvs1 h
    obtain ⟨ds, e, k1⟩ := asL.of k
    obtain ⟨ns, e2, k2⟩ := onS.of k1
    obtain ⟨l, rfl, b⟩ := intsQ s s0 h1 e e2
    exact ⟨l, ns, rfl, b, q _ H G (.v (.int _)) (Ext.refl s) toI k2⟩
  · exact k.elim
theorem opa_max1 : OpA K (rMax K) kMax1 := by
  intro H0 G Hs H rs vs Q κ s s0 sh h k q
  unfold kMax1 at k
  split at k
  · obtain ⟨v, rfl, h1⟩ := rvs1 h
    obtain ⟨ds, e, k1⟩ := asL.of k
    obtain ⟨ns, e2, k2⟩ := onS.of k1
    obtain ⟨m, e3, k3⟩ := onS.of k2
    obtain ⟨l, rfl, b⟩ := intsQ s s0 h1 e e2
    obtain ⟨a1, a2⟩ := List.max?_eq_some_iff.mp e3
    refine ⟨l, ns, rfl, b, List.length_pos_of_mem a1, fun m' h1 h2 => ?_⟩
    have em : m' = m := Int.le_antisymm (a2 m' h1) (h2 m a1)
    subst em
    exact q _ H G (.v (.int _)) (Ext.refl s) toI k3
  · exact k.elim
theorem opa_min1 : OpA K (rMin K) kMin1 := by
  intro H0 G Hs H rs vs Q κ s s0 sh h k q
  unfold kMin1 at k
  split at k
  · obtain ⟨v, rfl, h1⟩ := rvs1 h
    obtain ⟨ds, e, k1⟩ := asL.of k
    obtain ⟨ns, e2, k2⟩ := onS.of k1
    obtain ⟨m, e3, k3⟩ := onS.of k2
    obtain ⟨l, rfl, b⟩ := intsQ s s0 h1 e e2
    obtain ⟨a1, a2⟩ := List.min?_eq_some_iff.mp e3
    refine ⟨l, ns, rfl, b, List.length_pos_of_mem a1, fun m' h1 h2 => ?_⟩
    have em : m' = m := Int.le_antisymm (h2 m a1) (a2 m' h1)
    subst em
    exact q _ H G (.v (.int _)) (Ext.refl s) toI k3
  · exact k.elim
theorem me_sum (hc : X.calm = true) (hm : X.mg "sum" = none) (ha : MA X W (e :: es) da) (hg : Gl X "sum" := by rfl) (he : starEach (e :: es) X.env = (false, eval e X.env) :: starEach es X.env := by rfl) (hpl : (backTo pos (starEach es X.env)).any (·.1) = false := by rfl) : ME X W (.Call (.Name "sum" p) (e :: es) [] pos) (dB kSum da) :=
  me_B (cr_sum hc) opa_sum (by decide +kernel) hm ha hg (by decide) (by decide) he hpl
theorem me_max1 (hc : X.calm = true) (hm : X.mg "max" = none) (ha : MA X W (e :: es) da) (hg : Gl X "max" := by rfl) (he : starEach (e :: es) X.env = (false, eval e X.env) :: starEach es X.env := by rfl) (hpl : (backTo pos (starEach es X.env)).any (·.1) = false := by rfl) : ME X W (.Call (.Name "max" p) (e :: es) [] pos) (dB kMax1 da) :=
  me_B (cr_max hc) opa_max1 (by decide +kernel) hm ha hg (by decide) (by decide) he hpl
theorem me_min1 (hc : X.calm = true) (hm : X.mg "min" = none) (ha : MA X W (e :: es) da) (hg : Gl X "min" := by rfl) (he : starEach (e :: es) X.env = (false, eval e X.env) :: starEach es X.env := by rfl) (hpl : (backTo pos (starEach es X.env)).any (·.1) = false := by rfl) : ME X W (.Call (.Name "min" p) (e :: es) [] pos) (dB kMin1 da) :=
  me_B (cr_min hc) opa_min1 (by decide +kernel) hm ha hg (by decide) (by decide) he hpl
end

/-! ### in; is None; is True -/
def kIn (neg : Bool) : Rv → Rv → (Rv → Prop) → (Str → Prop) → Prop := fun x y κ _ => asL y fun ds => (shp 64 x.dat = true ∧ shp 64 (.lst ds) = true) ∧ κ (.v (.bl (if neg = true then !(ds.any fun z => eqD z x.dat) else (ds.any fun z => eqD z x.dat))))
theorem any_py {d : Dat} (h : plainD d = true) : ∀ ds : List Dat, plainDL ds = true → (toPyL ds).any (fun z => PyData.eqv z (toPy d)) = ds.any fun z => eqD z d
  | [], _ => by unfold toPyL; rfl
  | x :: xs, p => by
    unfold plainDL at p; rw [Bool.and_eq_true] at p
    unfold toPyL
    rw [List.any_cons, List.any_cons, any_py h xs p.2, eqD_py x d p.1 h]
theorem inD_go {x y : Rv} {v u : V} {ds : List Dat} {H0 G Hs H : Hp} (s : Same G H) (s0 : Same H0 H) (rx : RvR K H0 G Hs H x v) (ry : RvR K H0 G Hs H y u) (e : y.dat = .lst ds) (p1 : shp 64 x.dat = true) (p2 : shp 64 (.lst ds) = true) :
    ∃ d es, Dp K H v d ∧ Dp K H u (.list es) ∧ SeqAt.shaped d = true ∧ SeqAt.shaped (.list es) = true ∧ (es.any fun z => PyData.eqv z d) = ds.any fun z => eqD z x.dat := by
  obtain ⟨q1, q3⟩ := shp_shaped p1
  obtain ⟨q2, q4⟩ := shp_shaped p2
  have ry := ry.read s s0
  rw [e] at ry
  have q2' : plainDL ds = true := by unfold plainD at q2; exact q2
  have et : toPy (.lst ds) = .list (toPyL ds) := by unfold toPy; rfl
  rw [et] at q4
  refine ⟨_, toPyL ds, RdD.dp _ _ q1 (rx.read s s0), ?_, q3, q4, any_py q1 ds q2'⟩
  have := RdD.dp _ _ q2 ry
  rw [et] at this
  exact this
theorem op2_in : Op2 K (rInD K) (kIn false) := by
  intro H0 G Hs H x y v u Q κ ε s s0 sh rx ry h q
  obtain ⟨ds, e, ⟨p1, p2⟩, hk⟩ := asL.of h
  obtain ⟨d, es, a1, a2, a3, a4, a5⟩ := inD_go s s0 rx ry e p1 p2
  refine ⟨d, es, a1, a2, a3, a4, ?_⟩
  rw [a5]
  exact q _ H G (.v (.bl _)) (Ext.refl s) toB hk
theorem op2_notin : Op2 K (rNotInD K) (kIn true) := by
  intro H0 G Hs H x y v u Q κ ε s s0 sh rx ry h q
  obtain ⟨ds, e, ⟨p1, p2⟩, hk⟩ := asL.of h
  obtain ⟨d, es, a1, a2, a3, a4, a5⟩ := inD_go s s0 rx ry e p1 p2
  refine ⟨d, es, a1, a2, a3, a4, ?_⟩
  rw [a5]
  exact q _ H G (.v (.bl _)) (Ext.refl s) toB hk
def isNon : Dat → Bool
  | .non => true
  | _ => false
def kIsN (neg : Bool) : Rv → Rv → (Rv → Prop) → (Str → Prop) → Prop := fun x _ κ _ => κ (.v (.bl (if neg = true then !isNon x.dat else isNon x.dat)))
theorem rd_non {G : Hp} {d : Dat} {v : V} (h : RdD K G d v) : decide (v = .non) = isNon d := by
  cases d with
  | non => unfold RdD at h; subst h; rfl
  | bl b => unfold RdD at h; subst h; rfl
  | int b => unfold RdD at h; subst h; rfl
  | str b => unfold RdD at h; subst h; rfl
  | tup b => unfold RdD at h; obtain ⟨a, vs, rfl, _⟩ := h; rfl
  | lst b => unfold RdD at h; obtain ⟨a, vs, rfl, _⟩ := h; rfl
  | dic b => unfold RdD at h; obtain ⟨a, rfl, _⟩ := h; rfl
def kIsB (neg : Bool) : Rv → Rv → (Rv → Prop) → (Str → Prop) → Prop := fun x y κ _ => asB x fun a => asB y fun b => κ (.v (.bl (if neg = true then !decide (a = b) else decide (a = b))))
theorem op2_isB : Op2 K rIsB (kIsB false) := by
  intro H0 G Hs H x y v u Q κ ε s s0 sh rx ry h q
  obtain ⟨a, rfl, h1⟩ := asB.of h
  obtain ⟨b, rfl, hk⟩ := asB.of h1
  exact ⟨a, b, rvB rx, rvB ry, q _ H G (.v (.bl _)) (Ext.refl s) toB hk⟩
theorem op2_isnB : Op2 K rNotB (kIsB true) := by
  intro H0 G Hs H x y v u Q κ ε s s0 sh rx ry h q
  obtain ⟨a, rfl, h1⟩ := asB.of h
  obtain ⟨b, rfl, hk⟩ := asB.of h1
  exact ⟨a, b, rvB rx, rvB ry, q _ H G (.v (.bl _)) (Ext.refl s) toB hk⟩
def dIn (neg : Bool) := dBin (kIn neg)
def dIsN (neg : Bool) (a : DE) : DE := dBin (kIsN neg) a (dC .non)
def dIsB (neg : Bool) (b : Bool) (a : DE) : DE := dBin (kIsB neg) a (dC (.bl b))
def rIsN1 (K : PySem.W.Frag) : R2 := fun x y H Q => y = .non ∧ Q (.bl (decide (x = .non))) H
section
variable {X : Cx} {W : WX} {a b : Expr} {da db : DE} {pos p2 : Pos} {j : Nat}
theorem op2_isN {neg : Bool} (f : Bool → Bool) (hf : ∀ c, f c = if neg = true then !c else c) : ∀ (H0 G Hs H : Hp) (x y : Rv) (v u : V) (Q : VK) (κ : Rv → Prop) (ε : Str → Prop), Same G H → Same H0 H → Same Hs H → RvR K H0 G Hs H x v → y = .v .non → RvR K H0 G Hs H y u → kIsN neg x y κ ε →
    (∀ w H' G' z, Ext H G H' G' → RvR K H0 G' H H' z w → κ z → Q w H') → u = .non ∧ Q (.bl (f (decide (v = .non)))) H := by
  intro H0 G Hs H x y v u Q κ ε s s0 sh rx ey ry h q
  subst ey
  have ry : RdD K G .non u := ry
  unfold RdD at ry
  refine ⟨ry, ?_⟩
  rw [hf, rd_non (rx.read s s0)]
  exact q _ H G (.v (.bl _)) (Ext.refl s) toB h
theorem me_isN (ha : ME X W a da) : ME X W (.Compare a [.Is] [.Constant .none j p2] pos) (dIsN false da) := by
  obtain ⟨ta, pa, oa⟩ := ha
  refine ⟨_, pe_cmpR op_isN pa pe_non (nomark _), fun H0 G0 G ρ σ H Q κ ε R h hq hx => ?_⟩
  refine oa H0 G0 G ρ σ H _ _ ε R h (fun v H1 G1 x e1 r1 h1 => ?_) hx
  have R1 := R.on e1
  exact op2_isN (neg := false) id (fun c => rfl) H0 G1 H H1 x (.v .non) v .non Q κ ε e1.s R1.ext.h e1.h r1 rfl (by show RdD X.K _ _ _; unfold RdD; rfl) h1 fun w H' G' z e3 r3 h3 => hq w H' G' z (e1.trans e3) (r3.back e1.h) h3
theorem me_isNn (ha : ME X W a da) : ME X W (.Compare a [.IsNot] [.Constant .none j p2] pos) (dIsN true da) := by
  obtain ⟨ta, pa, oa⟩ := ha
  refine ⟨_, pe_cmpR op_notN pa pe_non (nomark _), fun H0 G0 G ρ σ H Q κ ε R h hq hx => ?_⟩
  refine oa H0 G0 G ρ σ H _ _ ε R h (fun v H1 G1 x e1 r1 h1 => ?_) hx
  have R1 := R.on e1
  exact op2_isN (neg := true) (fun c => !c) (fun c => rfl) H0 G1 H H1 x (.v .non) v .non Q κ ε e1.s R1.ext.h e1.h r1 rfl (by show RdD X.K _ _ _; unfold RdD; rfl) h1 fun w H' G' z e3 r3 h3 => hq w H' G' z (e1.trans e3) (r3.back e1.h) h3
theorem mt_isN (ha : ME X W a da) : MT X W (.Compare a [.Is] [.Constant .none j p2] pos) (tVal (dIsN false da)) := by
  obtain ⟨ta, pa, oa⟩ := ha
  refine ⟨_, pt_cmpR op_isN pa pe_non (nomark _), tok_val fun H0 G0 G ρ σ H Q κ ε R h hq hx => ?_⟩
  refine oa H0 G0 G ρ σ H _ _ ε R h (fun v H1 G1 x e1 r1 h1 => ?_) hx
  have R1 := R.on e1
  exact op2_isN (neg := false) id (fun c => rfl) H0 G1 H H1 x (.v .non) v .non Q κ ε e1.s R1.ext.h e1.h r1 rfl (by show RdD X.K _ _ _; unfold RdD; rfl) h1 fun w H' G' z e3 r3 h3 => hq w H' G' z (e1.trans e3) (r3.back e1.h) h3
theorem mt_isNn (ha : ME X W a da) : MT X W (.Compare a [.IsNot] [.Constant .none j p2] pos) (tVal (dIsN true da)) := by
  obtain ⟨ta, pa, oa⟩ := ha
  refine ⟨_, pt_cmpR op_notN pa pe_non (nomark _), tok_val fun H0 G0 G ρ σ H Q κ ε R h hq hx => ?_⟩
  refine oa H0 G0 G ρ σ H _ _ ε R h (fun v H1 G1 x e1 r1 h1 => ?_) hx
  have R1 := R.on e1
  exact op2_isN (neg := true) (fun c => !c) (fun c => rfl) H0 G1 H H1 x (.v .non) v .non Q κ ε e1.s R1.ext.h e1.h r1 rfl (by show RdD X.K _ _ _; unfold RdD; rfl) h1 fun w H' G' z e3 r3 h3 => hq w H' G' z (e1.trans e3) (r3.back e1.h) h3
theorem me_isB {c : Bool} (ha : ME X W a da) : ME X W (.Compare a [.Is] [.Constant (.bool c) j p2] pos) (dIsB false c da) := me_cmp op_isBl op2_isB ha me_bl (nomark _)
theorem me_isBn {c : Bool} (ha : ME X W a da) : ME X W (.Compare a [.IsNot] [.Constant (.bool c) j p2] pos) (dIsB true c da) := me_cmp op_notBl op2_isnB ha me_bl (nomark _)
theorem mt_isB {c : Bool} (ha : ME X W a da) : MT X W (.Compare a [.Is] [.Constant (.bool c) j p2] pos) (tVal (dIsB false c da)) := mt_cmp op_isBl op2_isB ha me_bl (nomark _)
theorem mt_isBn {c : Bool} (ha : ME X W a da) : MT X W (.Compare a [.IsNot] [.Constant (.bool c) j p2] pos) (tVal (dIsB true c da)) := mt_cmp op_notBl op2_isnB ha me_bl (nomark _)
theorem me_in (hu : X.A.units + 65 < cLine) (ha : ME X W a da) (hb : ME X W b db) (hm : behindInMarks .In b = false := by rfl) : ME X W (.Compare a [.In] [b] pos) (dIn false da db) := me_cmp (op_inD hu) op2_in ha hb hm
theorem me_notin (hu : X.A.units + 65 < cLine) (ha : ME X W a da) (hb : ME X W b db) (hm : behindInMarks .NotIn b = false := by rfl) : ME X W (.Compare a [.NotIn] [b] pos) (dIn true da db) := me_cmp (op_notInD hu) op2_notin ha hb hm
theorem mt_in (hu : X.A.units + 65 < cLine) (ha : ME X W a da) (hb : ME X W b db) (hm : behindInMarks .In b = false := by rfl) : MT X W (.Compare a [.In] [b] pos) (tVal (dIn false da db)) := mt_cmp (op_inD hu) op2_in ha hb hm
theorem mt_notin (hu : X.A.units + 65 < cLine) (ha : ME X W a da) (hb : ME X W b db) (hm : behindInMarks .NotIn b = false := by rfl) : MT X W (.Compare a [.NotIn] [b] pos) (tVal (dIn true da db)) := mt_cmp (op_notInD hu) op2_notin ha hb hm
end
end DL
namespace DL
open PySem PySem.Spec PyProof.Rows L2
variable {K : PySem.W.Frag}

/-! ### order of data -/
/-- comparable -/
def cmpO (a b : Dat) : Bool := shp 64 a && shp 64 b && PySem.W.alike (toPy a) (toPy b) && !isNon a
def ltD (a b : Dat) : Bool := PySem.W.dataLt (toPy a) (toPy b)
theorem cmpO_ok {a b : Dat} (h : cmpO a b = true) : plainD a = true ∧ plainD b = true ∧ PySem.W.alike (toPy a) (toPy b) = true ∧ toPy a ≠ .none ∧ (toPy a).depth ≤ 64 := by
  unfold cmpO at h
  rw [Bool.and_eq_true, Bool.and_eq_true, Bool.and_eq_true] at h
  obtain ⟨⟨⟨h1, h2⟩, h3⟩, h4⟩ := h
  obtain ⟨a1, a2, a3⟩ := shp_ok 64 a h1
  obtain ⟨b1, b2, b3⟩ := shp_ok 64 b h2
  refine ⟨a1, b1, h3, fun z => ?_, a3⟩
  cases a with
  | non => exact nomatch h4
  | dic kvs => unfold plainD at a1; exact nomatch a1
  | _ => unfold toPy at z; exact nomatch z
def rCmpD (K : PySem.W.Frag) (f : PyData → PyData → Bool) : R2 := fun x y H Q => ∃ d e, Dp K H x d ∧ Dp K H y e ∧ PySem.W.alike d e = true ∧ d ≠ .none ∧ d.depth ≤ 64 ∧ Q (.bl (f d e)) H
section
variable {X : Cx}
theorem op_ltD (hu : X.A.units + 64 < cLine) : OpR X (compareOp .Lt) (rCmpD X.K fun d e => PySem.W.dataLt d e) := by
  intro pins s σ H x y v u Q I rx ry ⟨d, e, hd, he, a1, a2, a3, q⟩
  obtain ⟨as, r1⟩ := Dp.reads I d x v hd rx
  obtain ⟨bs, r2⟩ := Dp.reads I e y u he ry
  exact PySem.W.lt_data r1 r2 a1 a2 (by have := Nat.min_le_left d.depth e.depth; omega) ⟨.bl _, H, I, rfl, q⟩
theorem op_gtD (hu : X.A.units + 64 < cLine) : OpR X (compareOp .Gt) (rCmpD X.K fun d e => PySem.W.dataLt e d) := by
  intro pins s σ H x y v u Q I rx ry ⟨d, e, hd, he, a1, a2, a3, q⟩
  obtain ⟨as, r1⟩ := Dp.reads I d x v hd rx
  obtain ⟨bs, r2⟩ := Dp.reads I e y u he ry
  exact PySem.W.gt_data r1 r2 a1 a2 (by have := Nat.min_le_left d.depth e.depth; omega) ⟨.bl _, H, I, rfl, q⟩
theorem op_leD (hu : X.A.units + 64 < cLine) : OpR X (compareOp .LtE) (rCmpD X.K fun d e => !PySem.W.dataLt e d) := by
  intro pins s σ H x y v u Q I rx ry ⟨d, e, hd, he, a1, a2, a3, q⟩
  obtain ⟨as, r1⟩ := Dp.reads I d x v hd rx
  obtain ⟨bs, r2⟩ := Dp.reads I e y u he ry
  exact PySem.W.le_data r1 r2 a1 a2 (by have := Nat.min_le_left d.depth e.depth; omega) ⟨.bl _, H, I, rfl, q⟩
theorem op_geD (hu : X.A.units + 64 < cLine) : OpR X (compareOp .GtE) (rCmpD X.K fun d e => !PySem.W.dataLt d e) := by
  intro pins s σ H x y v u Q I rx ry ⟨d, e, hd, he, a1, a2, a3, q⟩
  obtain ⟨as, r1⟩ := Dp.reads I d x v hd rx
  obtain ⟨bs, r2⟩ := Dp.reads I e y u he ry
  exact PySem.W.ge_data r1 r2 a1 a2 (by have := Nat.min_le_left d.depth e.depth; omega) ⟨.bl _, H, I, rfl, q⟩
end
def kCmp (g : Dat → Dat → Bool) : Rv → Rv → (Rv → Prop) → (Str → Prop) → Prop := fun x y κ _ => cmpO x.dat y.dat = true ∧ κ (.v (.bl (g x.dat y.dat)))
theorem op2_cmp {f : PyData → PyData → Bool} {g : Dat → Dat → Bool} (hfg : ∀ a b, g a b = f (toPy a) (toPy b)) : Op2 K (rCmpD K f) (kCmp g) := by
  intro H0 G Hs H x y v u Q κ ε s s0 sh rx ry h q
  obtain ⟨h1, hk⟩ := h
  obtain ⟨p1, p2, p3, p4, p5⟩ := cmpO_ok h1
  refine ⟨_, _, RdD.dp _ _ p1 (rx.read s s0), RdD.dp _ _ p2 (ry.read s s0), p3, p4, p5, ?_⟩
  rw [← hfg]
  exact q _ H G (.v (.bl _)) (Ext.refl s) toB hk
def dLtT := dBin (kCmp fun a b => ltD a b)
def dGtT := dBin (kCmp fun a b => ltD b a)
def dLeT := dBin (kCmp fun a b => !ltD b a)
def dGeT := dBin (kCmp fun a b => !ltD a b)
section
variable {X : Cx} {W : WX} {a b : Expr} {da db : DE} {pos : Pos}
theorem me_ltT (hu : X.A.units + 64 < cLine) (ha : ME X W a da) (hb : ME X W b db) : ME X W (.Compare a [.Lt] [b] pos) (dLtT da db) := me_cmp (op_ltD hu) (op2_cmp fun _ _ => rfl) ha hb (nomark _)
theorem me_gtT (hu : X.A.units + 64 < cLine) (ha : ME X W a da) (hb : ME X W b db) : ME X W (.Compare a [.Gt] [b] pos) (dGtT da db) := me_cmp (op_gtD hu) (op2_cmp fun _ _ => rfl) ha hb (nomark _)
theorem me_leT (hu : X.A.units + 64 < cLine) (ha : ME X W a da) (hb : ME X W b db) : ME X W (.Compare a [.LtE] [b] pos) (dLeT da db) := me_cmp (op_leD hu) (op2_cmp fun _ _ => rfl) ha hb (nomark _)
theorem me_geT (hu : X.A.units + 64 < cLine) (ha : ME X W a da) (hb : ME X W b db) : ME X W (.Compare a [.GtE] [b] pos) (dGeT da db) := me_cmp (op_geD hu) (op2_cmp fun _ _ => rfl) ha hb (nomark _)
theorem mt_ltT (hu : X.A.units + 64 < cLine) (ha : ME X W a da) (hb : ME X W b db) : MT X W (.Compare a [.Lt] [b] pos) (tVal (dLtT da db)) := mt_cmp (op_ltD hu) (op2_cmp fun _ _ => rfl) ha hb (nomark _)
theorem mt_gtT (hu : X.A.units + 64 < cLine) (ha : ME X W a da) (hb : ME X W b db) : MT X W (.Compare a [.Gt] [b] pos) (tVal (dGtT da db)) := mt_cmp (op_gtD hu) (op2_cmp fun _ _ => rfl) ha hb (nomark _)
theorem mt_leT (hu : X.A.units + 64 < cLine) (ha : ME X W a da) (hb : ME X W b db) : MT X W (.Compare a [.LtE] [b] pos) (tVal (dLeT da db)) := mt_cmp (op_leD hu) (op2_cmp fun _ _ => rfl) ha hb (nomark _)
theorem mt_geT (hu : X.A.units + 64 < cLine) (ha : ME X W a da) (hb : ME X W b db) : MT X W (.Compare a [.GtE] [b] pos) (tVal (dGeT da db)) := mt_cmp (op_geD hu) (op2_cmp fun _ _ => rfl) ha hb (nomark _)
end

/-! ### sorted, min, max of a list of data -/
/-- such that they can be put in order -/
structure SrtOk (ds : List Dat) : Prop where
  sh : shpL 63 ds = true
  al : PySem.W.AllAlike (toPyL ds)
  so : PySem.W.Sortable (toPyL ds)
theorem toPyL_map : ∀ ds : List Dat, toPyL ds = ds.map toPy
  | [] => by unfold toPyL; rfl
  | d :: ds => by unfold toPyL; rw [toPyL_map ds]; rfl
theorem shpL_mem {n : Nat} : ∀ {ds : List Dat}, shpL n ds = true → ∀ d ∈ ds, shp n d = true
  | [], _, _, h => nomatch h
  | x :: xs, h, d, hm => by
    unfold shpL at h
    rw [Bool.and_eq_true] at h
    rcases List.mem_cons.mp hm with e | hm
    · rw [e]; exact h.1
    · exact shpL_mem h.2 d hm
def sortD (ds : List Dat) : List Dat := ds.mergeSort fun a b => !ltD b a
def rSortD (K : PySem.W.Frag) : List V → Hp → VK → Prop := fun vs H Q => ∃ (a : Addr) (ds : List Dat) (xs : List V), vs = [V.ref a] ∧ SqL K H a xs ∧ RdL K H ds xs ∧ SrtOk ds ∧
  ∀ (ys : List V) (p : Addr), (∀ G, RdL K G ds xs → RdL K G (sortD ds) ys) → H p = none → Q (.ref p) (upd H p (.lst ys))
theorem each_vals {us : List Value} {α : Type} {f : α → V} : ∀ {bs : List α}, PySem.W.EachIs (fun (u : Value) (b : α) => RelV (f b) u) us bs → Vals (bs.map f) us := by
  intro bs h
  induction h with
  | nil => exact .nil
  | cons r _ ih => exact .cons r ih
theorem each_of : ∀ {xs : List V} {us : List Value} {ds : List Dat}, Vals xs us → ds.length = xs.length → PySem.W.EachIs (fun (u : Value) (b : Dat × V) => RelV b.2 u) us (ds.zip xs)
  | [], _, ds, .nil, e => by
    cases ds with
    | nil => exact .nil
    | cons d ds => exact nomatch e
  | x :: xs, _, ds, .cons r t, e => by
    cases ds with
    | nil => exact nomatch e
    | cons d ds => exact .cons r (each_of t (Nat.succ.inj e))
theorem RdL.zip {G : Hp} : ∀ {ds : List Dat} {xs : List V}, RdL K G ds xs → ∀ p ∈ ds.zip xs, RdD K G p.1 p.2
  | [], xs, h, p, hp => by simp at hp
  | d :: ds, xs, h, p, hp => by
    unfold RdL at h
    obtain ⟨v, r, rfl, h1, h2⟩ := h
    rw [List.zip_cons_cons] at hp
    rcases List.mem_cons.mp hp with e | hp
    · rw [e]; exact h1
    · exact RdL.zip h2 p hp
theorem RdL.of_pairs {G : Hp} : ∀ {ps : List (Dat × V)}, (∀ p ∈ ps, RdD K G p.1 p.2) → RdL K G (ps.map (·.1)) (ps.map (·.2))
  | [], _ => RdL.nil
  | p :: ps, h => RdL.cons (h p List.mem_cons_self) (RdL.of_pairs fun q hq => h q (List.mem_cons_of_mem _ hq))
theorem zip_fst {α β : Type} : ∀ {xs : List α} {ys : List β}, xs.length = ys.length → (xs.zip ys).map (·.1) = xs
  | [], _, _ => by simp
  | x :: xs, [], h => nomatch h
  | x :: xs, y :: ys, h => by rw [List.zip_cons_cons, List.map_cons, zip_fst (Nat.succ.inj h)]
theorem zip_snd {α β : Type} : ∀ {xs : List α} {ys : List β}, xs.length = ys.length → (xs.zip ys).map (·.2) = ys
  | [], [], _ => rfl
  | [], _ :: _, h => nomatch h
  | x :: xs, [], h => nomatch h
  | x :: xs, y :: ys, h => by rw [List.zip_cons_cons, List.map_cons, zip_snd (Nat.succ.inj h)]
theorem SrtOk.ok {ds : List Dat} (h : SrtOk ds) : ∀ d ∈ ds, plainD d = true ∧ (toPy d).depth ≤ 63 := fun d hd => by
  obtain ⟨a, b, c⟩ := shp_ok 63 d (shpL_mem h.sh d hd)
  exact ⟨a, c⟩
theorem cr_sortD {X : Cx} (hu : X.A.units + 66 < cLine) : CallR X (.builtin "sorted") (rSortD X.K) := by
  intro pins s σ H vs us Q I r h
  obtain ⟨a, ds, xs, rfl, hs, hr, ok, q⟩ := h
  obtain ⟨its, rv, hl, hz⟩ := I.list hs
  rw [Vals.ref1 r]
  have hlen := hr.len
  have ef : (ds.zip xs).map (fun b => toPy b.1) = toPyL ds := by
    have e0 : (ds.zip xs).map (fun b => toPy b.1) = ((ds.zip xs).map (·.1)).map toPy := by rw [List.map_map]; rfl
    rw [toPyL_map, e0, zip_fst hlen]
  have e1 := each_of (ds := ds) rv hlen
  have e2 : PySem.W.EachIs (fun (v : Value) (b : Dat × V) => ∃ as, Reads s.heap v (toPy b.1) as) its (ds.zip xs) := by
    have key : ∀ {us : List Value} {bs : List (Dat × V)}, PySem.W.EachIs (fun (u : Value) (b : Dat × V) => RelV b.2 u) us bs → (∀ b ∈ bs, RdD X.K H b.1 b.2 ∧ plainD b.1 = true) → PySem.W.EachIs (fun (v : Value) (b : Dat × V) => ∃ as, Reads s.heap v (toPy b.1) as) us bs := by
      intro us bs h
      induction h with
      | nil => intro _; exact .nil
      | cons r _ ih =>
        intro hb
        obtain ⟨b1, b2⟩ := hb _ List.mem_cons_self
        exact .cons (Dp.reads I _ _ _ (RdD.dp _ _ b2 b1) r) (ih fun b hm => hb b (List.mem_cons_of_mem _ hm))
    refine key e1 fun b hb => ⟨hr.zip b hb, (ok.ok b.1 ?_).1⟩
    exact (List.of_mem_zip (a := b.1) (b := b.2) hb).1
  have hlz : (ds.zip xs).length ≤ sizeLine := by rw [List.length_zip, hlen, Nat.min_self]; exact hz
  refine PySem.W.sorted_data (enc := fun b : Dat × V => toPy b.1) hl.isList e1 e2 (by rw [ef]; exact ok.al) (by rw [ef]; exact ok.so) hlz (fun b hb => ?_) fun out ho h2 => ?_
  · have := (ok.ok b.1 (List.of_mem_zip (a := b.1) (b := b.2) hb).1).2
    show X.A.units + 2 + (toPy b.1).depth < cLine
    omega
  · obtain ⟨ep, he'⟩ := PyProof.Rows.sortedAll_at s.heap its out.toArray
    have hv := each_vals h2
    generalize hS : (ds.zip xs).mergeSort (PySem.W.dataLe false fun b : Dat × V => toPy b.1) = S at h2 hv
    have em : S.map (·.1) = sortD ds := by
      rw [← hS]
      unfold sortD
      have e0 := List.map_mergeSort (l := ds.zip xs) (r := PySem.W.dataLe false fun b : Dat × V => toPy b.1) (s := fun a b => !ltD b a) (f := fun p : Dat × V => p.1) (fun a _ b _ => rfl)
      rw [zip_fst hlen] at e0
      exact e0
    have hp : ∀ p ∈ S, p ∈ ds.zip xs := fun p hm => by rw [← hS] at hm; exact (List.mem_mergeSort).mp hm
    have hl2 : (S.map (·.2)).length ≤ sizeLine := by rw [List.length_map, ← hS, List.length_mergeSort]; exact hlz
    refine ⟨.ref _, upd H (s.heap.objs.size + 1) (.lst (S.map (·.2))), I.laid (t' := s.toks) (fun _ _ => PyProof.Rows.sortedAll_old) (Nat.le_succ _) ⟨hl2, out, ep, hv, he'⟩, rfl, q _ _ (fun G hG => ?_) (I.hok.fresh (Nat.le_succ _))⟩
    rw [← em]
    exact RdL.of_pairs fun p hm => hG.zip p (hp p hm)
def kSort : List Rv → (Rv → Prop) → Prop := fun rs κ => match rs with
  | [x] => asL x fun ds => SrtOk ds ∧ κ (.n (sortD ds))
  | _ => False
theorem opa_sort : OpA K (rSortD K) kSort := by
  intro H0 G Hs H rs vs Q κ s s0 sh h k q
  unfold kSort at k
  split at k
  · obtain ⟨v, rfl, h1⟩ := rvs1 h
    obtain ⟨ds, e, ok, k1⟩ := asL.of k
    obtain ⟨l, us, rfl, b, c⟩ := h1.lst s s0 e
    refine ⟨l, ds, us, rfl, b, c.mono s, ok, fun ys p hy np => ?_⟩
    exact q _ _ _ (.n (sortD ds)) (Ext.newH s np) ⟨p, ys, rfl, upd_same, hy G c, np, s.free np⟩ k1
  · exact k.elim
def dSorted (a : DE) : DE := dB kSort (aCons a aNil)
/-- min, max of a list of data: the first of the least, of the greatest -/
def minO (d : Dat) (ds : List Dat) : Dat := ds.foldl (fun a y => if ltD y a = true then y else a) d
def maxO (d : Dat) (ds : List Dat) : Dat := ds.foldl (fun a y => if ltD a y = true then y else a) d
theorem minO_py (d : Dat) (ds : List Dat) : PySem.W.minD (toPy d) (toPyL ds) = toPy (minO d ds) := by
  unfold PySem.W.minD minO
  rw [toPyL_map, List.foldl_map]
  induction ds generalizing d with
  | nil => rfl
  | cons x xs ih =>
    rw [List.foldl_cons, List.foldl_cons, ← ih]
    congr 1
    unfold ltD
    split <;> rfl
theorem maxO_py (d : Dat) (ds : List Dat) : PySem.W.maxD (toPy d) (toPyL ds) = toPy (maxO d ds) := by
  unfold PySem.W.maxD maxO
  rw [toPyL_map, List.foldl_map]
  induction ds generalizing d with
  | nil => rfl
  | cons x xs ih =>
    rw [List.foldl_cons, List.foldl_cons, ← ih]
    congr 1
    unfold ltD
    split <;> rfl
theorem getD_py (ds : List Dat) (i : Nat) : (toPyL ds).getD i .none = toPy (ds.getD i .non) := by
  rw [toPyL_map, List.getD_eq_getElem?_getD, List.getD_eq_getElem?_getD, List.getElem?_map]
  cases ds[i]? with
  | none => unfold toPy; rfl
  | some d => rfl
/-- such that any two of them can be compared -/
structure AlkOk (ds : List Dat) : Prop where
  sh : shpL 63 ds = true
  al : PySem.W.AlikeAll (toPyL ds)
def rMmD (K : PySem.W.Frag) (m : Dat → List Dat → Dat) : List V → Hp → VK → Prop := fun vs H Q => ∃ (a : Addr) (d : Dat) (ds : List Dat) (xs : List V), vs = [V.ref a] ∧ SqL K H a xs ∧ RdL K H (d :: ds) xs ∧ AlkOk (d :: ds) ∧
  ∀ (i : Nat) (x : V), xs[i]? = some x → (d :: ds)[i]? = some (m d ds) → Q x H
theorem best_at {f : Dat → Dat → Bool} (d : Dat) (ds : List Dat) {i : Nat} (hi : i = argBest (fun i j => f ((d :: ds).getD i .non) ((d :: ds).getD j .non)) ds.length) : (d :: ds)[i]? = some (ds.foldl (fun a y => if f y a = true then y else a) d) := by
  obtain ⟨h1, h2⟩ := PySem.W.argBest_fold f Dat.non d ds ds.length (Nat.le_refl _)
  rw [← hi] at h1 h2
  rw [List.take_length] at h2
  rw [← h2, List.getD_eq_getElem?_getD]
  have : i < (d :: ds).length := by rw [List.length_cons]; omega
  rw [List.getElem?_eq_getElem this]; rfl
theorem vals_at : ∀ {xs : List V} {us : List Value}, Vals xs us → ∀ (i : Nat) (u : Value), us[i]? = some u → ∃ x, xs[i]? = some x ∧ RelV x u
  | [], _, .nil, i, u, h => by simp at h
  | x :: xs, _, .cons r t, i, u, h => by
    cases i with
    | zero => simp at h; subst h; exact ⟨x, rfl, r⟩
    | succ i => simpa using vals_at t i u (by simpa using h)
theorem AlkOk.plain {ds : List Dat} (h : AlkOk ds) : plainDL ds = true ∧ PyData.depthAll (toPyL ds) ≤ 63 := by
  obtain ⟨a, b, c⟩ := shpL_ok 63 ds h.sh
  exact ⟨a, c⟩
theorem cr_minD {X : Cx} (hc : X.calm = true) (hu : X.A.units + 66 < cLine) : CallR X (.builtin "min") (rMmD X.K minO) := by
  intro pins s σ H vs us Q I r h
  obtain ⟨a, d, ds, xs, rfl, hs, hr, ok, q⟩ := h
  obtain ⟨its, rv, hl, hz⟩ := I.list hs
  rw [Vals.ref1 r]
  obtain ⟨p1, p2⟩ := ok.plain
  have hlen := hr.len
  have hl2 := rv.length
  obtain ⟨as, ra⟩ := Dp.readsAll I _ _ _ (RdL.dp _ _ p1 hr) rv
  have ra' : ReadsAll s.heap its.toArray.toList (toPyL (d :: ds)) as := by simpa using ra
  refine PySem.call_min_walkH (PySem.W.iter_listW (A := X.A.in1) (I.ok.hd hc) hl.isList fun s₂ e W st hfp hw hk => ?_)
  refine ⟨_, _, _, _, _, _, _, s.heap, _, rfl, W, st, hfp, by rw [List.size_toArray, ← hl2, ← hlen, List.length_cons]; omega, hw, hk, PySem.W.cmpIn_lt (A := X.A.in1) ra' ok.al (by show X.A.units + 1 + _ < _; omega), fun v s' hP m => ?_⟩
  obtain ⟨h', tk, rfl, hk'⟩ := PySem.W.moved_old e rfl m
  have e1 : its.toArray.size - 1 = ds.length := by rw [List.size_toArray, ← hl2, ← hlen, List.length_cons]; omega
  rw [e1] at hP
  have ebt : (fun i j => PySem.W.dataLt ((toPyL (d :: ds)).getD i .none) ((toPyL (d :: ds)).getD j .none)) = fun i j => ltD ((d :: ds).getD i .non) ((d :: ds).getD j .non) := by
    funext i j; rw [getD_py, getD_py]; rfl
  rw [ebt] at hP
  have hP : its.toArray[argBest (fun i j => ltD ((d :: ds).getD i .non) ((d :: ds).getD j .non)) ds.length]? = some v := hP
  obtain ⟨x, hx, rx⟩ := vals_at rv _ v (by simpa using hP)
  exact ⟨x, H, I.kept (t' := tk) hk', rx, q _ x hx (best_at d ds rfl)⟩
theorem cr_maxD {X : Cx} (hc : X.calm = true) (hu : X.A.units + 66 < cLine) : CallR X (.builtin "max") (rMmD X.K maxO) := by
  intro pins s σ H vs us Q I r h
  obtain ⟨a, d, ds, xs, rfl, hs, hr, ok, q⟩ := h
  obtain ⟨its, rv, hl, hz⟩ := I.list hs
  rw [Vals.ref1 r]
  obtain ⟨p1, p2⟩ := ok.plain
  have hlen := hr.len
  have hl2 := rv.length
  obtain ⟨as, ra⟩ := Dp.readsAll I _ _ _ (RdL.dp _ _ p1 hr) rv
  have ra' : ReadsAll s.heap its.toArray.toList (toPyL (d :: ds)) as := by simpa using ra
  refine PySem.call_max_walkH (PySem.W.iter_listW (A := X.A.in1) (I.ok.hd hc) hl.isList fun s₂ e W st hfp hw hk => ?_)
  refine ⟨_, _, _, _, _, _, _, s.heap, _, rfl, W, st, hfp, by rw [List.size_toArray, ← hl2, ← hlen, List.length_cons]; omega, hw, hk, PySem.W.cmpIn_gt (A := X.A.in1) ra' ok.al (by show X.A.units + 1 + _ < _; omega), fun v s' hP m => ?_⟩
  obtain ⟨h', tk, rfl, hk'⟩ := PySem.W.moved_old e rfl m
  have e1 : its.toArray.size - 1 = ds.length := by rw [List.size_toArray, ← hl2, ← hlen, List.length_cons]; omega
  rw [e1] at hP
  have ebt : (fun i j => PySem.W.dataLt ((toPyL (d :: ds)).getD j .none) ((toPyL (d :: ds)).getD i .none)) = fun i j => ltD ((d :: ds).getD j .non) ((d :: ds).getD i .non) := by
    funext i j; rw [getD_py, getD_py]; rfl
  rw [ebt] at hP
  have hP : its.toArray[argBest (fun i j => ltD ((d :: ds).getD j .non) ((d :: ds).getD i .non)) ds.length]? = some v := hP
  obtain ⟨x, hx, rx⟩ := vals_at rv _ v (by simpa using hP)
  exact ⟨x, H, I.kept (t' := tk) hk', rx, q _ x hx (best_at (f := fun a b => ltD b a) d ds rfl)⟩
def kMm (m : Dat → List Dat → Dat) : List Rv → (Rv → Prop) → Prop := fun rs κ => match rs with
  | [x] => asL x fun ds => match ds with
    | d :: ds => AlkOk (d :: ds) ∧ κ (.v (m d ds))
    | [] => False
  | _ => False
theorem opa_mm {m : Dat → List Dat → Dat} : OpA K (rMmD K m) (kMm m) := by
  intro H0 G Hs H rs vs Q κ s s0 sh h k q
  unfold kMm at k
  split at k
  · obtain ⟨v, rfl, h1⟩ := rvs1 h
    obtain ⟨ds, e, k1⟩ := asL.of k
    split at k1
    · rename_i d ds
      obtain ⟨ok, k1⟩ := k1
      obtain ⟨l, us, rfl, b, c⟩ := h1.lst s s0 e
      refine ⟨l, d, ds, us, rfl, b, c.mono s, ok, fun i x hx hd => ?_⟩
      obtain ⟨y, hy, ry⟩ := c.get hd
      rw [hx] at hy
      cases hy
      exact q _ _ _ (.v (m d ds)) (Ext.refl s) ry k1
    · exact k1.elim
  · exact k.elim
section
variable {X : Cx} {W : WX} {p pos : Pos} {e : Expr} {d : DE}
theorem Room.u66 {k : Nat} {A : Around} (r : Room k A) : A.units + 66 < cLine := by have := r.un; omega
theorem Room.u65 {k : Nat} {A : Around} (r : Room k A) : A.units + 65 < cLine := by have := r.un; omega
theorem me_sorted {k : Nat} (C : Cn X W k) (hm : X.mg "sorted" = none) (h : ME X W e d) (hg : Gl X "sorted" := by rfl) (he : starEach [e] X.env = (false, eval e X.env) :: starEach [] X.env := by rfl) (hpl : (backTo pos (starEach [] X.env)).any (·.1) = false := by rfl) : ME X W (.Call (.Name "sorted" p) [e] [] pos) (dSorted d) :=
  me_B (cr_sortD (Room.u66 C.hr)) opa_sort (by decide +kernel) hm (ma_cons h ma_nil he) hg (by decide) (by decide) he hpl
theorem me_minD {k : Nat} (C : Cn X W k) (hm : X.mg "min" = none) (h : ME X W e d) (hg : Gl X "min" := by rfl) (he : starEach [e] X.env = (false, eval e X.env) :: starEach [] X.env := by rfl) (hpl : (backTo pos (starEach [] X.env)).any (·.1) = false := by rfl) : ME X W (.Call (.Name "min" p) [e] [] pos) (dB (kMm minO) (aCons d aNil)) :=
  me_B (cr_minD C.hc (Room.u66 C.hr)) opa_mm (by decide +kernel) hm (ma_cons h ma_nil he) hg (by decide) (by decide) he hpl
theorem me_maxD {k : Nat} (C : Cn X W k) (hm : X.mg "max" = none) (h : ME X W e d) (hg : Gl X "max" := by rfl) (he : starEach [e] X.env = (false, eval e X.env) :: starEach [] X.env := by rfl) (hpl : (backTo pos (starEach [] X.env)).any (·.1) = false := by rfl) : ME X W (.Call (.Name "max" p) [e] [] pos) (dB (kMm maxO) (aCons d aNil)) :=
  me_B (cr_maxD C.hc (Room.u66 C.hr)) opa_mm (by decide +kernel) hm (ma_cons h ma_nil he) hg (by decide) (by decide) he hpl
end
end DL
namespace L2
open PySem PySem.Spec PyProof.Rows
/-- the pair under a key -/
def prI (q : Addr × List Int) : Int × Int := (q.2.getD 0 0, q.2.getD 1 0)
def encI (q : Addr × List Int) : PyData := .tuple [.int (prI q).1, .int (prI q).2]
def LtP (p q : Int × Int) : Prop := p.1 < q.1 ∨ (p.1 = q.1 ∧ p.2 < q.2)
section
variable {P : Program} {w : World} {A : Around} {s : Shared} {E : Value → Shared → Prop}
theorem encI_eq {q : Addr × List Int} (h : q.2.length = 2) : encI q = .tuple (q.2.map .int) := by
  obtain ⟨a, l⟩ := q
  match l, h with
  | [x, y], _ => rfl
theorem sorted_setP {a : Addr} {L : List (Addr × List Int)} {es : Array (Int × Value)} {ep : Nat} {t : SetTable} {Q : Value → Shared → Prop} (R : SetTR P w s.heap a L es ep t) (hh : A.handled = none) (hu : A.units + 66 < cLine)
    (hB : ∀ p ∈ L, p.2.length = 2)
    (hQ : ∀ s' p (out : Array Value) (c : Nat) (L' : List (Addr × List Int)), (∀ b o, s.heap.get? b = some o → s'.heap.get? b = some o) → s'.gens = s.gens → s'.os = s.os → s.heap.objs.size ≤ p →
      s'.heap.get? p = some (seqObj "list" out c) → out.toList = L'.map (fun q => Value.ref q.1) → L'.Perm L → L'.Pairwise (fun q r => LtP (prI q) (prI r)) → Q (.ref p) s') :
    wpAny (model P w) A (call (.builtin "sorted") [.ref a]) Q E s := by
  obtain ⟨o, ho, hex, hd⟩ := R.ob
  have hsz := R.size
  have hfew := R.few
  refine Calls.call_function_entry kind_sorted plain_sorted entry_sorted (args_sorted1 _) ?_
  unfold Builtin.«sorted»
  refine wpAny_bind (m := checkCount "sorted" 1 1 _) (wpAny_pure ?_)
  refine wpAny_bind (collect_set (A := A.in1) hh ⟨o, ho, hex.1, hd⟩ R.fits (by unfold scanBound; omega) R.tab.ris R.led fun s1 vs k1 hz g1 o1 pm => ?_)
  have hes : es.toList.map (·.2) = L.map fun q => Value.ref q.1 := by
    rw [R.rows]
    unfold rowsOf
    rw [List.map_map] <;> rfl
  rw [hes] at pm
  have ord : ∀ vs : List Value, (∀ v ∈ vs, ∃ q ∈ L, v = Value.ref q.1) → ∃ L1 : List (Addr × List Int), vs = L1.map (fun q => Value.ref q.1) ∧ ∀ q ∈ L1, q ∈ L := by
    intro vs
    induction vs with
    | nil => intro _; exact ⟨[], rfl, fun q hq => (by cases hq)⟩
    | cons v vs ih =>
      intro hv
      obtain ⟨q, hq, e⟩ := hv v List.mem_cons_self
      obtain ⟨L1, e1, hs⟩ := ih fun u hu => hv u (List.mem_cons_of_mem _ hu)
      refine ⟨q :: L1, by rw [List.map_cons, e, e1], fun r hr => ?_⟩
      rcases List.mem_cons.mp hr with z | z
      · rw [z]; exact hq
      · exact hs r z
  have one : ∀ q ∈ L, ∀ r ∈ L, q.1 = r.1 → q = r := fun q hq r hr e => by
    have a1 := R.tup q hq
    have a2 := R.tup r hr
    rw [e] at a1
    exact Prod.ext e (a1.inj a2)
  have perm_of : ∀ L1 : List (Addr × List Int), (∀ q ∈ L1, q ∈ L) → (L1.map (fun q => Value.ref q.1)).Perm (L.map fun q => Value.ref q.1) → L1.Perm L := by
    intro L1 hs pm1
    have nL : L.Nodup := nodup_of_map R.nd
    have nref : (L.map fun q => Value.ref q.1).Nodup := by
      refine List.pairwise_map.mpr (List.Pairwise.imp_of_mem (fun {q r} hq hr hne e => ?_) nL)
      injection e with e
      exact hne (one q hq r hr e)
    have n1 : L1.Nodup := nodup_of_map (pm1.nodup_iff.mpr nref)
    refine (List.perm_ext_iff_of_nodup n1 nL).mpr fun q => ⟨hs q, fun hq => ?_⟩
    have hm : Value.ref q.1 ∈ L1.map (fun q => Value.ref q.1) := pm1.mem_iff.mpr (List.mem_map.mpr ⟨q, hq, rfl⟩)
    obtain ⟨r, hr, e⟩ := List.mem_map.mp hm
    injection e with e
    rw [← one r (hs r hr) q hq e]
    exact hr
  obtain ⟨L1, rfl, hs1⟩ := ord vs fun v hv => by
    obtain ⟨q, hq, e⟩ := List.mem_map.mp (pm.mem_iff.mp hv)
    exact ⟨q, hq, e.symm⟩
  have p1 := perm_of L1 hs1 pm
  have hl1 : L1.length < 64 := by rw [p1.length_eq]; exact hfew
  refine wpAny_bind (wpAny_newList ?_ (by rw [List.length_map, sizeLine_eq]; omega))
  have hoL : (s1.heap.push (seqObj "list" (L1.map fun q => Value.ref q.1).toArray 0)).get? s1.heap.objs.size = some (seqObj "list" (L1.map fun q => Value.ref q.1).toArray 0) := Heap.get?_push_size _ rfl
  have rd : ∀ q ∈ L1, Reads (s1.heap.push (seqObj "list" (L1.map fun q => Value.ref q.1).toArray 0)) (.ref q.1) (encI q) [] := fun q hq => by
    have hL := hs1 q hq
    obtain ⟨b, items, e, ⟨o2, ho2, hc2, n2, hd2⟩, hi⟩ := tupInts_of (P := P) (w := w) (isT_keep (R.tup q hL) fun b u e => Heap.get?_push_of_some (seqObj "list" (L1.map fun q => Value.ref q.1).toArray 0) (k1 b u e))
    cases e
    rw [encI_eq (hB q hL)]
    exact Reads.tuple ho2 hc2 hd2 (hi.reads _)
  have each : ∀ M : List (Addr × List Int), (∀ q ∈ M, q ∈ L1) → PySem.W.EachIs (fun (v : Value) (q : Addr × List Int) => v = .ref q.1) (M.map fun q => Value.ref q.1) M ∧
      PySem.W.EachIs (fun (v : Value) (q : Addr × List Int) => ∃ as, Reads (s1.heap.push (seqObj "list" (L1.map fun q => Value.ref q.1).toArray 0)) v (encI q) as ∧ s1.heap.objs.size ∉ as) (M.map fun q => Value.ref q.1) M := by
    intro M
    induction M with
    | nil => intro _; exact ⟨.nil, .nil⟩
    | cons q M ih =>
      intro h
      obtain ⟨a, b⟩ := ih fun r hr => h r (List.mem_cons_of_mem _ hr)
      exact ⟨.cons rfl a, .cons ⟨[], rd q (h q List.mem_cons_self), by simp⟩ b⟩
  obtain ⟨ea, eb⟩ := each L1 fun q h => h
  have dep : ∀ q, (encI q).depth ≤ 1 := fun q => by
    unfold encI PyData.depth PyData.depthAll PyData.depthAll PyData.depthAll PyData.depth
    decide
  refine wpAny_bind (wpAny_holding (PySem.W.list_sort_data (s := { s1 with heap := s1.heap.push (seqObj "list" (L1.map fun q => Value.ref q.1).toArray 0) }) (enc := encI) hoL ea eb ?_ ?_ (by rw [sizeLine_eq]; omega) (fun q _ => ?_) fun out _ h2 => ?_))
  · intro d hd d' hd'
    obtain ⟨q, _, rfl⟩ := List.mem_map.mp hd
    obtain ⟨r, _, rfl⟩ := List.mem_map.mp hd'
    rfl
  · refine .inl fun d hd => ?_
    obtain ⟨q, _, rfl⟩ := List.mem_map.mp hd
    exact ⟨_, _, rfl⟩
  · have := dep q
    show A.units + 1 + 1 + (encI q).depth < cLine
    omega
  · obtain ⟨c, hc⟩ := sortedHeap_at (vs := L1.map fun q => Value.ref q.1) (out := out.toArray) hoL
    generalize hS : L1.mergeSort (PySem.W.dataLe false encI) = S at h2
    have eo : out = S.map fun q => Value.ref q.1 := by
      have key : ∀ {out : List Value} {S : List (Addr × List Int)}, PySem.W.EachIs (fun (v : Value) (q : Addr × List Int) => v = .ref q.1) out S → out = S.map fun q => Value.ref q.1 := by
        intro out S h
        induction h with
        | nil => rfl
        | cons r _ ih => rw [List.map_cons, r, ih]
      exact key h2
    have ps : S.Perm L1 := by rw [← hS]; exact List.mergeSort_perm _ _
    have ele : PySem.W.dataLe false encI = fun p q => decide ((prI p).1 < (prI q).1 ∨ ((prI p).1 = (prI q).1 ∧ (prI p).2 ≤ (prI q).2)) := PySem.W.dataLe_ii (fun q => (prI q).1) (fun q => (prI q).2)
    have pw : S.Pairwise (fun q r => LtP (prI q) (prI r)) := by
      have h3 := List.pairwise_mergeSort (le := PySem.W.dataLe false encI) (fun a b c => by
        rw [ele]; simp only [decide_eq_true_eq]; omega) (fun a b => by
        rw [ele]; simp only [Bool.or_eq_true, decide_eq_true_eq]; omega) L1
      rw [hS, ele] at h3
      have nd : S.Pairwise (fun q r => q.2 ≠ r.2) := by
        have : (S.map (·.2)).Nodup := ((ps.trans p1).map (·.2)).nodup_iff.mpr R.nd
        exact List.pairwise_map.mp this
      refine List.Pairwise.imp_of_mem (fun {q r} hq hr h => ?_) (h3.and nd)
      obtain ⟨h4, h5⟩ := h
      have l1 := hB q (hs1 q (ps.mem_iff.mp hq))
      have l2 := hB r (hs1 r (ps.mem_iff.mp hr))
      have h4 := of_decide_eq_true h4
      obtain ⟨aq, lq⟩ := q
      obtain ⟨ar, lr⟩ := r
      match lq, lr, l1, l2 with
      | [x, y], [x', y'], _, _ =>
        have h4 : x < x' ∨ (x = x' ∧ y ≤ y') := h4
        show x < x' ∨ (x = x' ∧ y < y')
        have h5 : ¬ ([x, y] = [x', y']) := h5
        by_cases e : x = x'
        · by_cases e2 : y = y'
          · exact absurd (by rw [e, e2]) h5
          · omega
        · omega
    refine wpAny_pure ⟨_, rfl, hQ _ s1.heap.objs.size out.toArray c S (fun b u e => ?_) g1 o1 hz hc eo (ps.trans p1) pw⟩
    have q := k1 b u e
    have hlt := Heap.lt_size q
    show (sortedHeap (s1.heap.push (seqObj "list" (L1.map fun q => Value.ref q.1).toArray 0)) s1.heap.objs.size _ out.toArray).get? b = some u
    rw [sortedHeap_old (Nat.ne_of_lt hlt) (by rw [size_push']; exact Nat.lt_succ_of_lt hlt)]
    exact Heap.get?_push_of_some _ q
end
def rSortedP2 (K : PySem.W.Frag) (P : Program) (w : World) : List V → Hp → VK → Prop := fun vs H Q => ∃ (a : Addr) (L : List (Addr × List Int)), vs = [V.ref a] ∧ H a = some (SetTO P w a L) ∧ (∀ p ∈ L, SqT K H p.1 (p.2.map V.int)) ∧
  (∀ p ∈ L, p.2.length = 2) ∧
  ∀ (L' : List (Addr × List Int)) (p : Addr), L'.Perm L → L'.Pairwise (fun q r => LtP (prI q) (prI r)) → H p = none → Q (.ref p) (upd H p (.lst (L'.map fun q => V.ref q.1)))
theorem cr_sortedP2 {X : Cx} (hc : X.calm = true) (hu : X.A.units + 66 < cLine) : CallR X (.builtin "sorted") (rSortedP2 X.K X.prog X.w) := by
  intro pins s σ H vs us Q I r h
  obtain ⟨a, L, rfl, ha, hk, hB, q⟩ := h
  have R0 : SetT0 X.prog X.w s.heap a L := (I.hok a _ ha).1
  obtain ⟨es, ep, t, R⟩ := R0.full fun p hp => I.isT (hk p hp)
  rw [Vals.ref1 r]
  refine sorted_setP R (I.ok.hd hc) hu hB fun s' p out c L' k g o hp hg hout pm pw => ?_
  have hfew : L'.length < 64 := by rw [pm.length_eq]; exact R.few
  have hlen : (L'.map fun q => V.ref q.1).length ≤ sizeLine := by rw [List.length_map, sizeLine_eq]; omega
  have hn : H p = none := I.hok.fresh hp
  have hv : Vals (L'.map fun q => V.ref q.1) out.toList := by rw [hout]; exact vals_of_refs L'
  have J : Inv X pins σ (upd H p (.lst (L'.map fun q => V.ref q.1))) { s with heap := s'.heap, gens := s'.gens, drawn := s'.drawn, toks := s'.toks } :=
    I.call (ch := []) (Un.laid k hp hn) (I.hok.laid k hp ⟨hlen, out.toList, c, hv, hg⟩) (by rw [g]; exact I.bare) (fun _ z => nomatch z)
  have e : s' = { s with heap := s'.heap, gens := s'.gens, drawn := s'.drawn, toks := s'.toks } := by
    cases s'
    cases s
    cases o
    rfl
  rw [e]
  exact ⟨.ref p, _, J, rfl, q L' p pm pw hn⟩
end L2
namespace DL
open PySem PySem.Spec PyProof.Rows L2
variable {K : PySem.W.Frag}
/-! ### points -/
abbrev Pt := Int × Int
def pt (p : Pt) : Dat := .tup [.int p.1, .int p.2]
def ptD : Dat → Option Pt
  | .tup [.int x, .int y] => some (x, y)
  | _ => none
def ptsD : List Dat → Option (List Pt)
  | [] => some []
  | d :: ds => match ptD d, ptsD ds with
    | some p, some ps => some (p :: ps)
    | _, _ => none
theorem ptsD_map : ∀ ps : List Pt, ptsD (ps.map pt) = some ps
  | [] => rfl
  | p :: ps => by
    show (match ptD (pt p), ptsD (ps.map pt) with
      | some p, some ps => some (p :: ps)
      | _, _ => none) = _
    rw [ptsD_map ps]; rfl
theorem ptD_of {d : Dat} {p : Pt} (h : ptD d = some p) : d = pt p := by
  unfold ptD at h
  split at h
  · cases h; rfl
  · exact nomatch h
theorem ptsD_of : ∀ {ds : List Dat} {ps : List Pt}, ptsD ds = some ps → ds = ps.map pt
  | [], ps, h => by cases h; rfl
  | d :: ds, ps, h => by
    unfold ptsD at h
    split at h
    · rename_i p qs e1 e2
      cases h
      rw [ptD_of e1, ptsD_of e2]; rfl
    · exact nomatch h
theorem pts_keys {G H : Hp} (s : Same G H) : ∀ {ps : List Pt} {vs : List V}, RdL K G (ps.map pt) vs → ∃ ks : List (Addr × List Int), vs = ks.map (fun q => V.ref q.1) ∧ (∀ q ∈ ks, SqT K H q.1 (q.2.map V.int)) ∧ ks.map prI = ps ∧ (∀ q ∈ ks, q.2.length = 2 ∧ RdD K G (pt (prI q)) (.ref q.1)) ∧ ks.length = ps.length ∧ ∀ q ∈ ks, q.2 = [(prI q).1, (prI q).2]
  | [], vs, h => by
    unfold List.map RdL at h
    subst h
    exact ⟨[], rfl, by simp, rfl, by simp, rfl, by simp⟩
  | p :: ps, vs, h => by
    unfold List.map RdL at h
    obtain ⟨v, r, rfl, h1, h2⟩ := h
    obtain ⟨ks, e, k1, k2, k3, k4, k5⟩ := pts_keys s h2
    have h1' := h1
    unfold pt RdD at h1
    obtain ⟨a, us, rfl, g, r1⟩ := h1
    have hu : us = [V.int p.1, V.int p.2] := by
      have := RdL.toInts (K := K) (ns := [p.1, p.2]) r1
      exact this
    subst hu
    refine ⟨(a, [p.1, p.2]) :: ks, by rw [e]; rfl, fun q hq => ?_, by rw [List.map_cons, k2]; rfl, fun q hq => ?_, by rw [List.length_cons, List.length_cons, k4], fun q hq => ?_⟩
    · rcases List.mem_cons.mp hq with z | z
      · rw [z]; exact SqT.of (s _ _ g)
      · exact k1 q z
    · rcases List.mem_cons.mp hq with z | z
      · rw [z]; exact ⟨rfl, h1'⟩
      · exact k3 q z
    · rcases List.mem_cons.mp hq with z | z
      · rw [z]; rfl
      · exact k5 q z
theorem sqT_mono {H H' : Hp} (s : Same H H') {a : Addr} {xs : List V} (h : SqT K H a xs) : SqT K H' a xs := by
  rcases h with (h | ⟨o, h⟩) | h
  · exact .inl (.inl (s _ _ h))
  · exact .inl (.inr ⟨o, s _ _ h⟩)
  · exact .inr h
theorem pts_rd {G : Hp} : ∀ {L : List (Addr × List Int)}, (∀ q ∈ L, RdD K G (pt (prI q)) (.ref q.1)) → RdL K G ((L.map prI).map pt) (L.map fun q => V.ref q.1)
  | [], _ => RdL.nil
  | q :: L, h => RdL.cons (h q List.mem_cons_self) (pts_rd fun r hr => h r (List.mem_cons_of_mem _ hr))
/-- sorted(set(x)) of fewer than 64 points -/
def dSortedSet (a : DE) : DE := fun ρ κ ε => a ρ (fun x => asL x fun ds => onS (ptsD ds) fun ps => ps.length < 64 ∧ ∀ L : List Pt, L.Pairwise LtP → (∀ p, p ∈ L ↔ p ∈ ps) → κ (.n (L.map pt))) ε
section
variable {X : Cx} {W : WX} {e : Expr} {d : DE} {p p2 pos pos2 : Pos}
theorem me_sortedSet {k : Nat} (C : Cn X W k) (hm : X.mg "sorted" = none) (hm2 : X.mg "set" = none) (h : ME X W e d) (hg : Gl X "sorted" := by rfl) (hg2 : Gl X "set" := by rfl)
    (he : starEach [e] X.env = (false, eval e X.env) :: starEach [] X.env := by rfl) (hpl : (backTo pos2 (starEach [] X.env)).any (·.1) = false := by rfl)
    (he2 : starEach [.Call (.Name "set" p2) [e] [] pos2] X.env = (false, eval (.Call (.Name "set" p2) [e] [] pos2) X.env) :: starEach [] X.env := by rfl) (hpl2 : (backTo pos (starEach [] X.env)).any (·.1) = false := by rfl) :
    ME X W (.Call (.Name "sorted" p) [.Call (.Name "set" p2) [e] [] pos2] [] pos) (dSortedSet d) := by
  obtain ⟨t, pa, oa⟩ := h
  refine ⟨_, pe_callB (cr_sortedP2 C.hc (Room.u66 C.hr)) hg hm (by decide +kernel) (pa_cons (pe_callTy (cr_setOfT C.hc C.hr.units) hg2 hm2 (by decide +kernel) (pa_cons pa pa_nil he) (by decide) (by decide) he hpl) pa_nil he2) (by decide) (by decide) he2 hpl2, fun H0 G0 G ρ σ H Q κ ε R h hq hx => ?_⟩
  refine oa H0 G0 G ρ σ H _ _ ε R h (fun v H1 G1 r x1 h1 k1 => ?_) hx
  obtain ⟨ds, ed, k2⟩ := asL.of k1
  obtain ⟨ps, ep, hlt, k3⟩ := onS.of k2
  rw [ptsD_of ep] at ed
  have R1 := R.on x1
  obtain ⟨l, vs, rfl, b, c⟩ := h1.lst x1.s R1.ext.h ed
  obtain ⟨ks, rfl, g1, g2, g3, g4, g5⟩ := pts_keys x1.s c
  refine ⟨l, ks, rfl, b, g1, by omega, fun a L na hL hks => ?_⟩
  have x2 := Ext.newH (o := SetTO X.prog X.w a L) x1.s na
  refine ⟨a, L, rfl, upd_same, fun q hq => ?_, fun q hq => (g3 q (hL q hq)).1, fun L' p pm pw np => ?_⟩
  · exact sqT_mono x2.h (g1 q (hL q hq))
  · have x3 := Ext.newH (o := HO.lst (L'.map fun q => V.ref q.1)) x2.s np
    have hL' : ∀ q ∈ L', q ∈ ks := fun q hq => hL q (pm.mem_iff.mp hq)
    have x23 := (x1.trans x2).trans x3
    refine hq _ _ G1 (.n ((L'.map prI).map pt)) x23 ⟨p, _, rfl, upd_same, pts_rd fun q hq => (g3 q (hL' q hq)).2, (x1.trans x2).h.free np, x2.s.free np⟩ (k3 _ (List.pairwise_map.mpr pw) fun z => ⟨fun hz => ?_, fun hz => ?_⟩)
    · obtain ⟨q, hq, rfl⟩ := List.mem_map.mp hz
      rw [← g2]
      exact List.mem_map.mpr ⟨q, hL' q hq, rfl⟩
    · rw [← g2] at hz
      obtain ⟨q, hq, rfl⟩ := List.mem_map.mp hz
      have := hks q hq
      obtain ⟨r, hr, er⟩ := List.mem_map.mp this
      refine List.mem_map.mpr ⟨r, pm.mem_iff.mpr hr, ?_⟩
      unfold prI
      rw [er]
end
end DL
namespace RT
open PySem PySem.Spec PyProof.Rows L2
section
variable {prog : Program} {w : World} {A : Around} {E : Value → Shared → Prop} {s : Shared}
theorem call_list_rev {it l : Addr} {items : Array Value} {Q : Value → Shared → Prop} (hh : A.handled = none) (hit : s.heap.IsRevIter it l ((items.size : Int) - 1)) (hl : s.heap.IsList l items) (hne : l ≠ it) (hn : items.size ≤ sizeLine)
    (hQ : ∀ (h' : Heap) (tk : Nat) (acc : Array Value) (c : Nat), (∀ b o, b ≠ it → s.heap.get? b = some o → h'.get? b = some o) → h'.get? s.heap.objs.size = some (seqObj "list" acc c) → ItemsOf (fun i v => items[items.size - 1 - i]? = some v) acc items.size →
      Q (.ref s.heap.objs.size) { s with heap := h', toks := tk }) :
    wpAny (model prog w) A (call (.type "list") [.ref it]) Q E s := by
  obtain ⟨oi, hoi, _⟩ := id hit
  obtain ⟨ol, hol, _⟩ := id hl
  have hSi : s.heap.objs.size ≠ it := Nat.ne_of_gt (Heap.lt_size hoi)
  have hSl : s.heap.objs.size ≠ l := Nat.ne_of_gt (Heap.lt_size hol)
  have hSf : s.heap.objs.size ∉ [it, l] := by simp only [List.mem_cons, List.not_mem_nil, or_false, not_or]; exact ⟨hSi, hSl⟩
  refine callType_codes (Q₁ := fun obj s₁ => obj = .ref s.heap.objs.size ∧ s₁ = { s with heap := s.heap.push { cls := .type "list", data := .seq #[] } }) F.called_list (F.typeCall_list_1 _) F.entry_list_init
    (code_list_new _ ⟨rfl, rfl⟩) fun obj s₁ h₁ => ?_
  obtain ⟨rfl, rfl⟩ := h₁
  have hS : (s.heap.push { cls := .type "list", data := .seq #[] }).get? s.heap.objs.size = some { cls := .type "list", data := .seq #[] } := Heap.get?_push_size _ rfl
  refine ⟨⟨_, hS, rfl⟩, F.args_list_init_2 _ _, ?_⟩
  show wpAny _ A.in1.in1 (do let old ← Builtin.List.listItems (.ref s.heap.objs.size); Builtin.List.listUpdate (.ref s.heap.objs.size) (fun _ => #[]); letGo old.toList.reverse; Builtin.List.listExtendWith (.ref s.heap.objs.size) (.ref it) .none) _ _ _
  refine wpAny_bind ?_
  unfold Builtin.List.listItems
  refine wpAny_bind (wpAny_seqItems hS rfl (wpAny_pure ?_))
  show wpAny _ A.in1.in1 (updateSeq s.heap.objs.size (fun _ => #[]) >>= fun _ => letGo (#[] : Array Value).toList.reverse >>= fun _ => Builtin.List.listExtendWith (.ref s.heap.objs.size) (.ref it) .none) _ _ _
  refine wpAny_bind (wpAny_updateSeq hS rfl ?_)
  have hS2 := Heap.get?_update_self (Obj.mapSeq (fun _ => (#[] : Array Value))) hS rfl
  refine wpAny_bind (wpAny_letGo ?_)
  unfold Builtin.List.listExtendWith
  have k1 : ∀ b o, s.heap.get? b = some o → (s.heap.push { cls := .type "list", data := .seq #[] }).get? b = some o := fun b o e => Heap.get?_push_of_some _ e
  have k2 : ∀ b o, s.heap.get? b = some o → ((s.heap.push { cls := .type "list", data := .seq #[] }).update s.heap.objs.size (Obj.mapSeq (fun _ => (#[] : Array Value)))).get? b = some o := fun b o e =>
    (Heap.get?_update_other _ _ (Ne.symm (Nat.ne_of_lt (Heap.lt_size e)))).trans (k1 b o e)
  generalize hh2 : (s.heap.push { cls := .type "list", data := .seq #[] }).update s.heap.objs.size (Obj.mapSeq (fun _ => (#[] : Array Value))) = h2 at hS2 k2
  have hit1 : h2.IsRevIter it l ((items.size : Int) - 1) := hit.at fun o e => k2 _ _ e
  have hl1 : h2.IsList l items := hl.at fun o e => k2 _ _ e
  have hT : ({ s with heap := h2 } : Shared).TypeIs (.ref it) "list_reverseiterator" := Heap.IsRevIter.typeIs (s := { s with heap := h2 }) hit1
  have h1 : Builtin.List.listSameRef (.ref s.heap.objs.size) (.ref it) = false := by simp [Builtin.List.listSameRef, hSi]
  have W := (Walks.listRev (prog := prog) (w := w) (A := A.in1.in1) hh it l hne items).toS
  refine wpAny_bind (wpAny_typeOf hT ?_)
  rw [if_neg (by rw [h1]; decide)]
  refine wpAny_bind (wpAny_pyIter_revIter (s := { s with heap := h2 }) hit1 ?_)
  refine wpAny_bind (wpAny_holding ?_)
  unfold Builtin.List.listLengthHint
  refine wpAny_bind (wpAny_specialOf hT nolen_lri ?_)
  show wpAny _ A.in1.in1 (specialOf (Value.ref it) (Str.ofString "__length_hint__") >>= _) _ _ _
  refine wpAny_bind (wpAny_specialOf hT hint_lri ?_)
  generalize hid : ("list_reverseiterator.__length_hint__" : String) = id0
  wp_delta
  rw [show splitId id0 = some ("list_reverseiterator", "__length_hint__") from by subst hid; decide +kernel]
  subst hid
  refine wpAny_bind (wpAny_isInstance (b := true) hT (by rw [isSubtype_type]; kernel_rfl) ?_)
  refine wpAny_pure ?_
  rw [if_neg (by decide)]
  have e0 : ((items.size : Nat) : Int) - 1 - ((0 : Nat) : Int) = (items.size : Int) - 1 := by omega
  refine wpAny_pure ⟨plainId_quiet F.plain_extend_loop _, codeAny_extend_loopS W hn _ hSf _ items.size 0 _ _ _ rfl (Nat.zero_le _) ⟨Nat.zero_le _, by rw [e0]; exact hit1, hl1⟩ hS2 (ItemsOf.nil _) fun s' acc' c' hm hS' hacc => ?_⟩
  rw [Moved.eq_with hm]
  refine ⟨rfl, hQ s'.heap s'.toks acc' c' (fun b o hb e => hm.heap b o (fun hmem => ?_) (k2 _ _ e)) hS' hacc⟩
  rcases List.mem_cons.mp hmem with e' | hmem
  · exact absurd (Heap.lt_size e) (by rw [e']; exact Nat.lt_irrefl _)
  · exact hb (List.mem_singleton.mp hmem)
end
end RT
namespace DL
open PySem PySem.Spec PyProof.Rows L2
variable {K : PySem.W.Frag}

/-! ### list(reversed(x)) -/
def tListRev (K : PySem.W.Frag) (te : TE) : TE := fun σ H Q => te σ H fun v H1 => ∃ (a : Addr) (xs : List V), v = .ref a ∧ SqL K H1 a xs ∧ ∀ q, H1 q = none → Q (.ref q) (upd H1 q (.lst xs.reverse))
def dRev (a : DE) : DE := fun ρ κ ε => a ρ (fun x => asL x fun ds => κ (.n ds.reverse)) ε
section
variable {X : Cx} {W : WX} {e : Expr} {te : TE} {d : DE} {p p2 pos pos2 : Pos}
theorem pe_listRev (hc : X.calm = true) (hg : Gl X "list") (hm : X.mg "list" = none) (hg2 : Gl X "reversed") (hm2 : X.mg "reversed" = none) (he : PE X e te)
    (hs : starEach [e] X.env = (false, eval e X.env) :: starEach [] X.env := by rfl)
    (hs2 : starEach [.Call (.Name "reversed" p2) [e] [] pos2] X.env = (false, eval (.Call (.Name "reversed" p2) [e] [] pos2) X.env) :: starEach [] X.env := by rfl) :
    PE X (.Call (.Name "list" p) [.Call (.Name "reversed" p2) [e] [] pos2] [] pos) (tListRev X.K te) := by
  refine ⟨fun pins s σ H Q I h => ?_⟩
  refine Call_ (ld_blt I hg hm boot_list (PyProof.Rows.callWith_type1 (args_cons (Call_ (ld_blt I hg2 hm2 PyProof.Rows.boot_reversed (PyProof.Rows.callWith_type1 (args_cons (thn (he.run pins s σ H _ I h) fun u s1 ⟨v, H1, I1, r1, q1⟩ => args_nil ?_) hs) hs rfl))) hs2) hs2 rfl))
  obtain ⟨a, xs, ev, hq, q⟩ := q1
  subst ev
  obtain rfl : u = Value.ref a := r1
  obtain ⟨its, rv, p', hz⟩ := I1.list hq
  refine call_reversed_list p'.isList (args_nil ?_)
  have hl := p'.isList
  obtain ⟨ol, hol, _⟩ := id hl
  have hne : a ≠ s1.heap.objs.size := Nat.ne_of_lt (Heap.lt_size hol)
  have hn : its.toArray.size ≤ sizeLine := by rw [List.size_toArray, ← rv.length]; exact hz
  refine RT.call_list_rev (s := { s1 with heap := s1.heap.push (revObj a ((its.toArray.size : Int) - 1)) }) (I1.ok.hd hc) ⟨_, Heap.get?_push_size _ rfl, rfl, rfl⟩ (hl.push _) hne hn fun h' tk acc c hk hD hi => ?_
  have hsz : (s1.heap.push (revObj a ((its.toArray.size : Int) - 1))).objs.size = s1.heap.objs.size + 1 := size_push' _ _
  have hD : h'.get? (s1.heap.push (revObj a ((its.toArray.size : Int) - 1))).objs.size = some (seqObj "list" acc c) := hD
  rw [hsz] at hD
  show EP X pins σ Q (.ref (s1.heap.push (revObj a ((its.toArray.size : Int) - 1))).objs.size) _
  rw [hsz]
  refine ⟨.ref _, upd H1 (s1.heap.objs.size + 1) (.lst xs.reverse), I1.laid (t' := tk) (fun b u e => hk b u (Nat.ne_of_lt (Heap.lt_size e)) (Heap.get?_push_of_some _ e)) (Nat.le_succ _) ⟨by rw [List.length_reverse]; exact hz, acc.toList, c, RT.vals_rev rv hi, ?_⟩, rfl, q _ (I1.hok.fresh (Nat.le_succ _))⟩
  rw [Array.toArray_toList]
  exact hD
theorem me_listRev {k : Nat} (C : Cn X W k) (hm : X.mg "list" = none) (hm2 : X.mg "reversed" = none) (h : ME X W e d) (hg : Gl X "list" := by rfl) (hg2 : Gl X "reversed" := by rfl)
    (hs : starEach [e] X.env = (false, eval e X.env) :: starEach [] X.env := by rfl)
    (hs2 : starEach [.Call (.Name "reversed" p2) [e] [] pos2] X.env = (false, eval (.Call (.Name "reversed" p2) [e] [] pos2) X.env) :: starEach [] X.env := by rfl) :
    ME X W (.Call (.Name "list" p) [.Call (.Name "reversed" p2) [e] [] pos2] [] pos) (dRev d) := by
  obtain ⟨t, pa, oa⟩ := h
  refine ⟨_, pe_listRev C.hc hg hm hg2 hm2 pa hs hs2, fun H0 G0 G ρ σ H Q κ ε R h hq hx => ?_⟩
  refine oa H0 G0 G ρ σ H _ _ ε R h (fun v H1 G1 r x1 h1 k1 => ?_) hx
  obtain ⟨ds, ed, k2⟩ := asL.of k1
  have R1 := R.on x1
  obtain ⟨l, vs, rfl, b, c⟩ := h1.lst x1.s R1.ext.h ed
  refine ⟨l, vs, rfl, b, fun q nq => ?_⟩
  have y := Ext.newH (o := HO.lst vs.reverse) x1.s nq
  exact hq _ _ _ (.n ds.reverse) (x1.trans y) ⟨q, _, rfl, upd_same, c.reverse, x1.h.free nq, x1.s.free nq⟩ k2
end

/-! ### for over reversed(list) -/
def iRev (c : Bool) (a : DE) : DI := fun ρ κ ε => a ρ (fun r => stays c r = true ∧ asL r fun ds => κ ds.reverse) ε
theorem itOk_rev {K : PySem.W.Frag} {a : Addr} {vs : List V} {ds : List Dat} {B G : Hp} (h : ∀ H, Same B H → Same G H → SqL K H a vs) (r : RdL K G ds vs) : ItOk K (Itv K a vs.length) ds.reverse B G := by
  have hl := r.len
  refine ⟨fun i H b g hi => ?_, fun i H b g hi => by rw [List.length_reverse] at hi; show vs.length ≤ i; omega, fun i H x H' Gc d b g gc hd hy => ?_⟩
  · rw [List.length_reverse] at hi
    exact ⟨by omega, vs, _, h H b g, List.getElem?_eq_getElem (by omega : vs.length - 1 - i < vs.length)⟩
  · obtain ⟨rfl, q⟩ := hy
    have hi : i < ds.length := by
      by_cases hi : i < ds.length
      · exact hi
      · rw [List.getElem?_eq_none (by rw [List.length_reverse]; omega)] at hd; exact nomatch hd
    rw [List.getElem?_reverse hi] at hd
    obtain ⟨v, e1, e2⟩ := r.get hd
    have e := q vs (h _ b (g.trans gc))
    rw [← hl, e1] at e
    cases e
    exact ⟨Gc, Ext.refl gc, RdD.mono g _ _ e2⟩
section
variable {X : Cx} {W : WX} {tg e : Expr} {d : DE} {c : Bool} {p pos : Pos}
theorem mi_rev (hm : X.mg "reversed" = none) (h : ME X W e d) (hg : Gl X "reversed" := by rfl) (hs : starEach [e] X.env = (false, eval e X.env) :: starEach [] X.env := by rfl) : MI X W c tg (.Call (.Name "reversed" p) [e] [] pos) (iRev c d) := by
  obtain ⟨t, pa, oa⟩ := h
  refine ⟨_, RT.pi_revA hg hm pa hs, fun H0 G0 G ρ σ H R κ ε RR h hq hx => ?_⟩
  refine oa H0 G0 G ρ σ H _ _ ε RR h (fun v H1 G1 r x1 hr k => ?_) hx
  obtain ⟨ks, k⟩ := k
  obtain ⟨ds, ed, k⟩ := asL.of k
  have R1 := RR.on x1
  obtain ⟨l, vs, rfl, b1, c1⟩ := hr.lst x1.s R1.ext.h ed
  refine ⟨l, vs, rfl, .inl ⟨b1, ?_⟩⟩
  by_cases hcc : c = true
  · refine hq _ H1 G1 ds.reverse x1 ?_ k
    rw [if_pos hcc]
    exact itOk_rev (vs := vs) (fun H b g => rd_mono b b1) c1
  · cases r with
    | v d0 =>
      have ed : d0 = .lst ds := ed
      subst ed
      have hr : RdD X.K G1 (.lst ds) (.ref l) := hr
      unfold RdD at hr
      obtain ⟨l', vs', e1, b2, c2⟩ := hr
      cases e1
      have el : vs'.length = vs.length := by rw [← c2.len, c1.len]
      exact hq _ H1 G1 ds.reverse x1 (el ▸ itOk_rev (vs := vs') (fun H b g => rd_mono g b2) c2) k
    | n es =>
      injection ed with ed; subst ed
      obtain ⟨l', vs', e1, b2, c2, n2, g2⟩ := hr
      cases e1
      have el : vs'.length = vs.length := by rw [← c2.len, c1.len]
      obtain ⟨y, s⟩ := x1.put n2 b2 g2
      exact hq _ H1 _ es.reverse y (el ▸ itOk_rev (vs := vs') (fun H b g => sq_of (g _ _ upd_same)) (c2.mono s)) k
    | b es =>
      injection ed with ed; subst ed
      obtain ⟨l', vs', e1, b2, c2⟩ := hr
      cases e1
      have el : vs'.length = vs.length := by rw [← c2.len, c1.len]
      refine hq _ H1 G1 es.reverse x1 ?_ k
      rw [if_neg hcc]
      exact (el ▸ itOk_rev (vs := vs') (fun H b g => rd_mono b b2) c2)
    | o es =>
      cases c with
      | true => exact absurd rfl hcc
      | false => exact nomatch ks
end

/-! ### tuples: +, slices, tuple(x); list * n -/
def kCatT : Rv → Rv → (Rv → Prop) → (Str → Prop) → Prop := fun x y κ _ => match x, y with
  | .v (.tup ds), .v (.tup es) => Nat.ble (ds.length + es.length) 100000 = true ∧ κ (.v (.tup (ds ++ es)))
  | _, _ => False
theorem op2_catT : Op2 K (rCatA K) kCatT := by
  intro H0 G Hs H x y v u Q κ ε s s0 sh rx ry h q
  unfold kCatT at h
  split at h
  · rename_i ds es
    obtain ⟨hz, hk⟩ := h
    have rx0 : RdD K G (.tup ds) v := rx
    have ry0 : RdD K G (.tup es) u := ry
    obtain ⟨a, vs, rfl, b1, c1⟩ := rvT s rx
    obtain ⟨b, ws, rfl, b2, c2⟩ := rvT s ry
    refine ⟨a, b, vs, ws, rfl, rfl, b1, b2, by rw [← c1.len, ← c2.len]; exact small_of hz, fun e => ?_, fun _ e => ?_, fun _ _ p np => ?_⟩
    · have : ds = [] := List.eq_nil_of_length_eq_zero (by rw [c1.len, e]; rfl)
      subst this
      exact q _ H G (.v (.tup es)) (Ext.refl s) ry0 hk
    · have : es = [] := List.eq_nil_of_length_eq_zero (by rw [c2.len, e]; rfl)
      subst this
      rw [List.append_nil] at hk
      exact q _ H G (.v (.tup ds)) (Ext.refl s) rx0 hk
    · have y := Ext.newG (o := HO.tup (vs ++ ws)) s np
      refine q _ _ _ (.v (.tup (ds ++ es))) y ?_ hk
      show RdD K _ _ _
      unfold RdD
      exact ⟨p, _, rfl, upd_same, (c1.append c2).mono y.g⟩
  · exact h.elim
def dCatT := dBin kCatT
section
variable {X : Cx} {W : WX} {a b : Expr} {lo hi : Option Expr} {da db : DE} {dl dh : DO} {pos p2 : Pos}
theorem me_catT (ha : ME X W a da) (hb : ME X W b db) : ME X W (.BinOp a .Add b pos) (dCatT da db) := me_bin op_catA op2_catT ha hb
end
def kTuple : List Rv → (Rv → Prop) → Prop := fun rs κ => match rs with
  | [x] => asQ x fun ds => κ (.v (.tup ds))
  | _ => False
theorem opa_tuple {K : PySem.W.Frag} : OpA K (fun xs H Q => ∃ p ys, xs = [.ref p] ∧ ((SqL K H p ys ∧ ∀ l, H l = none → Q (.ref l) (upd H l (.tup ys))) ∨ (SqT K H p ys ∧ Q (.ref p) H))) kTuple := by
  intro H0 G Hs H rs vs Q κ s s0 sh h k q
  unfold kTuple at k
  split at k
  · obtain ⟨v, rfl, h1⟩ := rvs1 h
    obtain ⟨ds, e, k1⟩ := asQ.of k
    rcases e with e | e
    · obtain ⟨l, us, rfl, b, c⟩ := h1.lst s s0 e
      refine ⟨l, us, rfl, .inl ⟨b, fun p np => ?_⟩⟩
      have y := Ext.newG (o := HO.tup us) s np
      refine q _ _ _ (.v (.tup ds)) y ?_ k1
      show RdD K _ _ _
      unfold RdD
      exact ⟨p, _, rfl, upd_same, c.mono y.g⟩
    · rename_i x
      cases x with
      | v d0 =>
        have e : d0 = .tup ds := e
        subst e
        have h10 : RdD K G (.tup ds) v := h1
        obtain ⟨l, us, rfl, b, c⟩ := rvT s h1
        exact ⟨l, us, rfl, .inr ⟨b, q _ H G (.v (.tup ds)) (Ext.refl s) h10 k1⟩⟩
      | n _ => exact nomatch e
      | b _ => exact nomatch e
      | o _ => exact nomatch e
  · exact k.elim
/-- [..] * n, the list made here -/
def kRep : Rv → Rv → (Rv → Prop) → (Str → Prop) → Prop := fun x y κ _ => match x with
  | .n ds => asI y fun k => (-(2 ^ 63) ≤ k ∧ k < 2 ^ 63 ∧ ds.length * k.toNat ≤ sizeLine) ∧ κ (.n (List.replicate k.toNat ds).flatten)
  | _ => False
theorem RdL.rep {G : Hp} {ds : List Dat} {vs : List V} (h : RdL K G ds vs) : ∀ k : Nat, RdL K G (List.replicate k ds).flatten (List.replicate k vs).flatten
  | 0 => RdL.nil
  | k + 1 => by
    rw [List.replicate_succ, List.replicate_succ, List.flatten_cons, List.flatten_cons]
    exact h.append (RdL.rep h k)
theorem op2_rep : Op2 K rRep kRep := by
  intro H0 G Hs H x y v u Q κ ε s s0 sh rx ry h q
  unfold kRep at h
  split at h
  · rename_i ds
    obtain ⟨k, rfl, ⟨z1, z2, z3⟩, hk⟩ := asI.of h
    obtain ⟨l, vs, rfl, b, c, _⟩ := rx
    refine ⟨l, k, vs, rfl, rvI ry, b, z1, z2, by rw [← c.len]; exact z3, fun p np => ?_⟩
    exact q _ _ _ (.n _) (Ext.newH s np) ⟨p, _, rfl, upd_same, c.rep _, np, s.free np⟩ hk
  · exact h.elim
def dRep := dBin kRep
section
variable {X : Cx} {W : WX} {a b e : Expr} {es : List Expr} {da' : DA} {da db : DE} {p pos : Pos}
theorem me_rep (ha : ME X W a da) (hb : ME X W b db) : ME X W (.BinOp a .Mult b pos) (dRep da db) := me_bin op_rep op2_rep ha hb
theorem me_tuple (hm : X.mg "tuple" = none) (ha : MA X W (e :: es) da') (hg : Gl X "tuple" := by rfl) (he : starEach (e :: es) X.env = (false, eval e X.env) :: starEach es X.env := by rfl) (hpl : (backTo pos (starEach es X.env)).any (·.1) = false := by rfl) : ME X W (.Call (.Name "tuple" p) (e :: es) [] pos) (dB kTuple da') :=
  me_Ty call_tuple_of opa_tuple (by decide +kernel) hm ha hg (by decide) (by decide) he hpl
end
end DL
namespace DL
open PySem PySem.Spec PyProof.Rows L2
variable {K : PySem.W.Frag}
theorem Cn.tr {X : Cx} {W W' : WX} {k : Nat} (C : Cn X W' k) {pn : List (Addr × Obj)} {xe : Value → Shared → Prop} (tk : Takes (X.tr pn xe) W) (po : PassesOwn (model X.prog X.w) X.A X.env xe) : Cn (X.tr pn xe) W k := ⟨tk, po, C.hc, C.hr, C.nd⟩
theorem Xm.mk' {mg : MG} {a b : Str} {r : Bool} {C D : Addr} (h1 : mg a = some (.ref C)) (h2 : mg b = some (.ref D)) (h3 : PySem.W.exmOne K (.ref C) (.ref D) = some r) : Xm K mg a b r := ⟨C, D, h1, h2, h3⟩
theorem Xi.mk' {mg : MG} {a b : Str} {r : Bool} {C D : Addr} (h1 : mg a = some (.ref C)) (x : ExcC K C) (h2 : mg b = some (.ref D)) (k : PySem.W.keepIn K (.ref D) = true) (h3 : PySem.W.kitOne K (.ref C) (.ref D) = some r) : Xi K mg a b r := ⟨C, h1, x, .inl ⟨D, h2, k, h3⟩⟩
theorem Xi.mkV {mg : MG} {a : Str} {r : Bool} {C : Addr} (h1 : mg a = some (.ref C)) (x : ExcC K C) (h2 : mg "ValueError" = none) (h3 : PySem.W.kitOne K (.ref C) (.type "ValueError") = some r) : Xi K mg a "ValueError" r := ⟨C, h1, x, .inr ⟨h2, by decide +kernel, rfl, h3⟩⟩
/-! ### x + y of ints, lists, tuples -/
def kPlus : Rv → Rv → (Rv → Prop) → (Str → Prop) → Prop := fun x y κ ε => match x.dat, y.dat with
  | .int i, .int j => κ (.v (.int (i + j)))
  | .lst ds, .lst es => ds.length + es.length ≤ sizeLine ∧ κ (.n (ds ++ es))
  | .tup ds, .tup es => Nat.ble (ds.length + es.length) 100000 = true ∧ κ (.v (.tup (ds ++ es)))
  | _, _ => False
theorem Rv.int_of {x : Rv} {i : Int} (e : x.dat = .int i) : x = .v (.int i) := by
  cases x with
  | v d => have e : d = .int i := e; rw [e]
  | n _ => exact nomatch e
  | b _ => exact nomatch e
  | o _ => exact nomatch e
theorem op2_or {r r' : R2} {k1 k2 k : Rv → Rv → (Rv → Prop) → (Str → Prop) → Prop} (h1 : Op2 K r k1) (h2 : Op2 K r' k2) (h : ∀ x y κ ε, k x y κ ε → k1 x y κ ε ∨ k2 x y κ ε) : Op2 K (fun x y H Q => r x y H Q ∨ r' x y H Q) k := by
  intro H0 G Hs H x y v u Q κ ε s s0 sh rx ry hk q
  rcases h x y κ ε hk with hk | hk
  · exact .inl (h1 H0 G Hs H x y v u Q κ ε s s0 sh rx ry hk q)
  · exact .inr (h2 H0 G Hs H x y v u Q κ ε s s0 sh rx ry hk q)
theorem op2_plus : Op2 K (fun x y H Q => rI0 (fun i j => .int (i + j)) x y H Q ∨ (rCatR K x y H Q ∨ rCatA K x y H Q)) kPlus := by
  refine op2_or (k1 := kI0 fun i j => .int (i + j)) (k2 := fun x y κ ε => kCat x y κ ε ∨ kCatT x y κ ε) (op2_I0 rdI) (op2_or op2_cat op2_catT fun x y κ ε h => h) fun x y κ ε h => ?_
  unfold kPlus at h
  split at h
  · rename_i i j e1 e2
    obtain rfl := Rv.int_of e1
    obtain rfl := Rv.int_of e2
    exact .inl h
  · rename_i ds es e1 e2
    refine .inr (.inl ?_)
    unfold kCat asL
    rw [e1, e2]
    exact h
  · rename_i ds es e1 e2
    obtain rfl := Rv.tup_of e1
    obtain rfl := Rv.tup_of e2
    exact .inr (.inr h)
  · exact h.elim
def dPlus := dBin kPlus
theorem me_plus {X : Cx} {W : WX} {a b : Expr} {da db : DE} {pos : Pos} (ha : ME X W a da) (hb : ME X W b db) : ME X W (.BinOp a .Add b pos) (dPlus da db) := me_bin (op_add.or (op_catR.or op_catA)) op2_plus ha hb
end DL
namespace DL
open PySem PySem.Spec PyProof.Rows L2
variable {K : PySem.W.Frag}
/-! ### an int in a tuple of ints -/
def kInT (neg : Bool) : Rv → Rv → (Rv → Prop) → (Str → Prop) → Prop := fun x y κ _ => asI x fun i => match y with
  | .v (.tup ds) => onS (intsD ds) fun ns => κ (.v (.bl (if neg = true then !decide (i ∈ ns) else decide (i ∈ ns))))
  | _ => False
theorem flat_ints : ∀ ns : List Int, (ns.map V.int).all flatV = true
  | [] => rfl
  | n :: ns => by rw [List.map_cons, List.all_cons, flat_ints ns]; rfl
theorem inV_ints (i : Int) : ∀ ns : List Int, inV (.int i) (ns.map V.int) = decide (i ∈ ns)
  | [] => rfl
  | n :: ns => by
    have ih := inV_ints i ns
    unfold inV at ih ⊢
    rw [List.map_cons, List.any_cons, ih]
    have : eqV (V.int n) (V.int i) = decide (i = n) := by
      show (n == i) = _
      by_cases h : i = n
      · subst h; simp
      · have : ¬ n = i := fun z => h z.symm
        simp [h, this]
    rw [this]
    by_cases h : i = n <;> simp [h]
theorem op2_inT {neg : Bool} : Op2 K (rIn K neg) (kInT neg) := by
  intro H0 G Hs H x y v u Q κ ε s s0 sh rx ry h q
  obtain ⟨i, rfl, h1⟩ := asI.of h
  split at h1
  · rename_i ds
    obtain ⟨ns, e, h2⟩ := onS.of h1
    obtain ⟨a, vs, rfl, b, c⟩ := rvT s ry
    rw [intsD_of e] at c
    rw [c.toInts] at b
    rw [rvI rx]
    refine ⟨a, _, rfl, .inr b, rfl, flat_ints ns, ?_⟩
    rw [inV_ints]
    exact q _ H G (.v (.bl _)) (Ext.refl s) toB h2
  · exact h1.elim
def dInT (neg : Bool) := dBin (kInT neg)
section
variable {X : Cx} {W : WX} {a b : Expr} {da db : DE} {pos : Pos}
theorem me_inT (ha : ME X W a da) (hb : ME X W b db) (hm : behindInMarks .In b = false := by rfl) : ME X W (.Compare a [.In] [b] pos) (dInT false da db) := me_cmp op_in_seq op2_inT ha hb hm
theorem me_notinT (ha : ME X W a da) (hb : ME X W b db) (hm : behindInMarks .NotIn b = false := by rfl) : ME X W (.Compare a [.NotIn] [b] pos) (dInT true da db) := me_cmp op_notIn_seq op2_inT ha hb hm
theorem mt_inT (ha : ME X W a da) (hb : ME X W b db) (hm : behindInMarks .In b = false := by rfl) : MT X W (.Compare a [.In] [b] pos) (tVal (dInT false da db)) := mt_cmp op_in_seq op2_inT ha hb hm
theorem mt_notinT (ha : ME X W a da) (hb : ME X W b db) (hm : behindInMarks .NotIn b = false := by rfl) : MT X W (.Compare a [.NotIn] [b] pos) (tVal (dInT true da db)) := mt_cmp op_notIn_seq op2_inT ha hb hm
end
/-! ### len(set(x)) of fewer than 64 points -/
def rLenT (K : PySem.W.Frag) (P : Program) (w : World) : List V → Hp → VK → Prop := fun vs H Q => ∃ (a : Addr) (L : List (Addr × List Int)), vs = [V.ref a] ∧ H a = some (SetTO P w a L) ∧ (∀ p ∈ L, SqT K H p.1 (p.2.map V.int)) ∧ ((L.map (·.2)).Nodup → Q (.int L.length) H)
theorem cr_lenT {X : Cx} : CallR X (.builtin "len") (rLenT X.K X.prog X.w) := by
  intro pins s σ H vs us Q I r h
  obtain ⟨a, L, rfl, ha, hk, q⟩ := h
  have R0 : SetT0 X.prog X.w s.heap a L := (I.hok a _ ha).1
  obtain ⟨es, ep, t, R⟩ := R0.full fun p hp => I.isT (hk p hp)
  rw [Vals.ref1 r]
  obtain ⟨o, ho, hex, hd⟩ := R.ob
  have hsz := R.size
  have hfew := R.few
  refine call_len_set ho hex hd R.fits (by omega) ⟨.int L.length, H, I.tok _, ⟨_, by rw [hsz]⟩, q R.nd⟩
def dLenSet (a : DE) : DE := fun ρ κ ε => a ρ (fun x => asL x fun ds => onS (ptsD ds) fun ps => ps.length < 64 ∧ ∀ L : List Pt, L.Nodup → (∀ p, p ∈ L ↔ p ∈ ps) → κ (.v (.int (L.length : Int)))) ε
section
variable {X : Cx} {W : WX} {e : Expr} {d : DE} {p p2 pos pos2 : Pos}
theorem me_lenSet {k : Nat} (C : Cn X W k) (hm : X.mg "len" = none) (hm2 : X.mg "set" = none) (h : ME X W e d) (hg : Gl X "len" := by rfl) (hg2 : Gl X "set" := by rfl)
    (he : starEach [e] X.env = (false, eval e X.env) :: starEach [] X.env := by rfl) (hpl : (backTo pos2 (starEach [] X.env)).any (·.1) = false := by rfl)
    (he2 : starEach [.Call (.Name "set" p2) [e] [] pos2] X.env = (false, eval (.Call (.Name "set" p2) [e] [] pos2) X.env) :: starEach [] X.env := by rfl) (hpl2 : (backTo pos (starEach [] X.env)).any (·.1) = false := by rfl) :
    ME X W (.Call (.Name "len" p) [.Call (.Name "set" p2) [e] [] pos2] [] pos) (dLenSet d) := by
  obtain ⟨t, pa, oa⟩ := h
  refine ⟨_, pe_callB cr_lenT hg hm PySem.boot_len (pa_cons (pe_callTy (cr_setOfT C.hc C.hr.units) hg2 hm2 (by decide +kernel) (pa_cons pa pa_nil he) (by decide) (by decide) he hpl) pa_nil he2) (by decide) (by decide) he2 hpl2, fun H0 G0 G ρ σ H Q κ ε R h hq hx => ?_⟩
  refine oa H0 G0 G ρ σ H _ _ ε R h (fun v H1 G1 r x1 h1 k1 => ?_) hx
  obtain ⟨ds, ed, k2⟩ := asL.of k1
  obtain ⟨ps, ep, hlt, k3⟩ := onS.of k2
  rw [ptsD_of ep] at ed
  have R1 := R.on x1
  obtain ⟨l, vs, rfl, b, c⟩ := h1.lst x1.s R1.ext.h ed
  obtain ⟨ks, rfl, g1, g2, g3, g4, g5⟩ := pts_keys x1.s c
  refine ⟨l, ks, rfl, b, g1, by omega, fun a L na hL hks => ?_⟩
  have x2 := Ext.newH (o := SetTO X.prog X.w a L) x1.s na
  refine ⟨a, L, rfl, upd_same, fun q hq => ?_, fun nd => ?_⟩
  · exact sqT_mono x2.h (g1 q (hL q hq))
  · have key : ∀ q ∈ L, q.2 = [(prI q).1, (prI q).2] := fun q hq => g5 q (hL q hq)
    have nd2 : (L.map prI).Nodup := by
      refine List.pairwise_map.mpr (List.Pairwise.imp_of_mem (fun {q r} hq hr hne e => hne ?_) (List.pairwise_map.mp nd))
      rw [key q hq, key r hr, e]
    have k4 := k3 (L.map prI) nd2 fun z => ⟨fun hz => ?_, fun hz => ?_⟩
    · rw [List.length_map] at k4
      exact hq _ _ G1 (.v (.int _)) (x1.trans x2) toI k4
    · obtain ⟨q, hq, rfl⟩ := List.mem_map.mp hz
      rw [← g2]
      exact List.mem_map.mpr ⟨q, hL q hq, rfl⟩
    · rw [← g2] at hz
      obtain ⟨q, hq, rfl⟩ := List.mem_map.mp hz
      obtain ⟨r, hr, er⟩ := List.mem_map.mp (hks q hq)
      refine List.mem_map.mpr ⟨r, hr, ?_⟩
      unfold prI
      rw [er]
end
end DL
namespace DL
open PySem PySem.Spec PyProof.Rows L2
/-! ### for over an own list that the loop only looks at -/
def sOwnL (k : Nat) (all : List Dat) (g : DG) (t : DT) (a : DS) (κ : DEnds) : List Dat → List Sl → Prop
  | [], ρ => κ.nx ρ
  | d :: ds, ρ => g (.v d) ρ fun ρ1 => ρ1[k]? = some (.ow all) ∧ t ρ1 (fun c => if c = true then a { κ with nx := fun _ => False, ct := fun _ => False, bk := fun _ => False } ρ1 else sOwnL k all g t a κ ds ρ1) (fun nm => κ.ex nm ρ1)
def sForOwn (k : Nat) (g : DG) (t : DT) (a : DS) : DS := fun κ ρ => match ρ[k]? with
  | some (.ow ds) => sOwnL k ds g t a κ ds ρ
  | _ => False
theorem ms_forOwn {X : Cx} {W : WX} {tg c : Expr} {xs : List Stmt} {g : DG} {t : DT} {a : DS} {pos p p2 : Pos} {x : Str} {kk : Nat} {is : List Nat} (C : Cn X W kk) (k : Nat) (hg : MG1 X tg is g) (hc : MT X W c t) (ha : MSs X W xs a) (hk : k ∉ is := by decide)
    (hN : X.N[k]? = some x := by rfl) (hv : Vis X.env.scope x := by first | exact Or.inl rfl | exact Or.inr (Or.inl rfl) | exact Or.inr (Or.inr rfl)) (hd : (x == ("__debug__" : Str)) = false := by decide)
    (hcd : (x == ("__classdict__" : Str)) = false := by decide) (hs : ∀ y, foldedSetIterable (.Name x p) X.env y = pure y := by intro _; rfl) : MS X W (.For tg (.Name x p) [.If c xs [] p2] [] pos) (sForOwn k g t a) := by
  obtain ⟨tg', pg, og⟩ := hg
  obtain ⟨tc, pc, oc⟩ := hc
  obtain ⟨ta, pa, oa⟩ := ha
  refine ⟨_, ps_for C.hp C.hc (pi_seq (pe_var hN hv hd hcd)) pg (pss_one (ps_if pc pa pss_nil)) hs, fun H0 G0 G ρ σ H D κ R h E => ?_⟩
  unfold sForOwn at h
  split at h
  · rename_i ds eo
    obtain ⟨l, vs, e1, e2, e3⟩ := ow_at R eo
    refine ⟨_, e1, l, rfl, .inl ⟨⟨vs, SqL.of e2⟩, ?_⟩⟩
    refine ⟨fun i m σ' H' => ∃ ρ' G', Rel X.K H0 G0 G' ρ' σ' H' ∧ ρ'[k]? = some (.ow ds) ∧ σ'[k]? = some (some (.ref l)) ∧ m = ds.length - i ∧ sOwnL k ds g t a κ (ds.drop i) ρ', ⟨ds.length, ρ, G, R, eo, e1, rfl, by simpa using h⟩, ?_⟩
    rintro i m σ' H' ⟨ρ', G', R', eo', es', rfl, hl⟩
    obtain ⟨l', vs', f1, f2, f3⟩ := ow_at R' eo'
    have : l' = l := by rw [es'] at f1; simpa using f1.symm
    subst this
    have hln := f3.len
    by_cases hlt : i < ds.length
    · have hlt2 : i < vs'.length := by omega
      refine .inr ⟨⟨vs', _, SqL.of f2, List.getElem?_eq_getElem hlt2⟩, fun σ2 H2 => ∃ ρ2 G2, Rel X.K H0 G0 G2 ρ2 σ2 H2 ∧ ρ2[k]? = some (.ow ds) ∧ σ2[k]? = some (some (.ref l')) ∧ sOwnL k ds g t a κ (ds.drop (i + 1)) ρ2, fun σ2 H2 ⟨ρ2, G2, R2, q1, q2, h2⟩ => ⟨ds.length - (i + 1), by omega, ρ2, G2, R2, q1, q2, rfl, h2⟩, fun x H2 hy => ?_⟩
      obtain ⟨rfl, q⟩ := hy
      have hx := q vs' (SqL.of f2)
      have hdd : ds[i]? = some ds[i] := List.getElem?_eq_getElem hlt
      obtain ⟨v, g1, g2⟩ := f3.get hdd
      rw [hx] at g1
      cases g1
      rw [List.drop_eq_getElem_cons hlt] at hl
      refine og H0 G0 G' G' ρ' σ' _ _ (.v ds[i]) x _ _ R' (Ext.refl R'.ext.s) g2 hl fun ρ3 σ3 R3 tch k3 => ?_
      obtain ⟨k4, k5⟩ := k3
      have es3 : σ3[k]? = some (some (.ref l')) := by rw [tch.2 k hk]; exact es'
      refine oc H0 G0 G' ρ3 σ3 _ _ _ _ R3 k5 (fun b H4 G4 x4 hb => ?_) (E.xok R3)
      have R4 := R3.on x4
      by_cases hbb : b = true
      · rw [if_pos hbb] at hb ⊢
        exact oa H0 G0 G4 ρ3 σ3 H4 _ _ R4 hb ⟨fun _ _ _ _ _ z => z.elim, fun _ _ _ _ _ z => z.elim, fun _ _ _ _ _ z => z.elim, E.rt, E.ex⟩
      · rw [if_neg hbb] at hb ⊢
        exact ⟨ρ3, G4, R4, k4, es3, hb⟩
    · refine .inl ⟨⟨vs', SqL.of f2, by omega⟩, ?_⟩
      rw [List.drop_eq_nil_of_le (by omega)] at hl
      exact E.nx ρ' σ' H' G' R' hl
  · exact h.elim
end DL
namespace DL
open PySem PySem.Spec PyProof.Rows L2
/-! ### a dict of written numbers, to be looked at -/
def dicI (kvs : List (Int × Int)) : Dat := .dic (mergeK [] (kvs.map fun kv => ((.inl kv.1 : Key), V.int kv.2)))
def trsI (kvs : List (Int × Int)) : List (TE × TE) := kvs.map fun kv => (tC (.int kv.1), tC (.int kv.2))
theorem pairs_I {σ : L2.St} {H : Hp} : ∀ (kvs : List (Int × Int)) (F : List (V × V) → Hp → Prop), F (kvs.map fun kv => (V.int kv.1, V.int kv.2)) H → tPairs (trsI kvs) σ H F
  | [], F, h => h
  | kv :: kvs, F, h => pairs_I kvs (fun ps H3 => F ((V.int kv.1, V.int kv.2) :: ps) H3) h
theorem me_dic {X : Cx} {W : WX} {pos : Pos} {keys : List (Option Expr)} {values : List Expr} (kvs : List (Int × Int)) (h : PPs X pos keys values (trsI kvs)) (hall : keys.all (·.isSome) = true := by rfl) (hl : keys.length = values.length := by rfl) (h0 : keys ≠ [] := by simp)
    (h15 : keys.length ≤ 15 := by decide) (hk : (kvs.map fun kv => ((.inl kv.1 : Key), V.int kv.2)).length ≤ 15 := by decide) : ME X W (.Dict keys values pos) (dC (dicI kvs)) := by
  refine ⟨_, pe_disp h hall hl h0 h15, fun H0 G0 G ρ σ H Q κ ε R hκ hq hx => ?_⟩
  intro p np
  refine pairs_I kvs _ ⟨upd_same, kvs.map fun kv => ((.inl kv.1 : Key), V.int kv.2), ?_, hk, ?_⟩
  · rw [List.map_map]; rfl
  · rw [upd_upd]
    refine hq _ _ _ (.v (dicI kvs)) (Ext.newG R.ext.s np) ?_ hκ
    show RdD X.K _ (dicI kvs) _
    unfold dicI RdD
    exact ⟨p, rfl, upd_same⟩
theorem me_dic0 {X : Cx} {W : WX} {pos : Pos} : ME X W (.Dict [] [] pos) (dC (dicI [])) := by
  refine ⟨_, pe_dnewK, fun H0 G0 G ρ σ H Q κ ε R hκ hq hx => ?_⟩
  intro p np
  refine hq _ _ _ (.v (dicI [])) (Ext.newG R.ext.s np) ?_ hκ
  show RdD X.K _ (dicI []) _
  unfold dicI RdD
  exact ⟨p, rfl, upd_same⟩
/-! ### the first place of a thing in a list -/
def dIndex (a b : DE) : DE := fun ρ κ ε => a ρ (fun x => b ρ (fun y => asL x fun ds => (shp 64 y.dat = true ∧ shp 64 (.lst ds) = true) ∧ ∃ j : Nat, (∃ z, ds[j]? = some z ∧ eqD z y.dat = true) ∧ (∀ (m : Nat) (z : Dat), m < j → ds[m]? = some z → eqD z y.dat = false) ∧ κ (.v (.int (j : Int)))) ε) ε
end DL
namespace DL
open PySem PySem.Spec PyProof.Rows L2
variable {K : PySem.W.Frag}

/-! ### sizes of numbers -/
/-- of less than k bits -/
@[irreducible] def Bt (k : Nat) (i : Int) : Prop := i.natAbs < 2 ^ k
theorem Bt.def {k : Nat} {i : Int} : Bt k i ↔ i.natAbs < 2 ^ k := by unfold Bt; exact Iff.rfl
theorem Bt.mono {k l : Nat} {i : Int} (h : Bt k i) (hl : k ≤ l) : Bt l i := by
  rw [Bt.def] at h ⊢
  exact Nat.lt_of_lt_of_le h (Nat.pow_le_pow_right (by decide) hl)
theorem Bt.add {k l : Nat} {i j : Int} (h : Bt k i) (h2 : Bt l j) : Bt (max k l + 1) (i + j) := by
  have a := h.mono (Nat.le_max_left k l)
  have b := h2.mono (Nat.le_max_right k l)
  rw [Bt.def] at a b ⊢
  have := Int.natAbs_add_le i j
  rw [Nat.pow_succ]
  omega
theorem Bt.neg {k : Nat} {i : Int} (h : Bt k i) : Bt k (-i) := by
  rw [Bt.def] at h ⊢; rw [Int.natAbs_neg]; exact h
theorem Bt.sub {k l : Nat} {i j : Int} (h : Bt k i) (h2 : Bt l j) : Bt (max k l + 1) (i - j) := by
  rw [Int.sub_eq_add_neg]; exact h.add h2.neg
theorem Bt.mul {k l : Nat} {i j : Int} (h : Bt k i) (h2 : Bt l j) : Bt (k + l) (i * j) := by
  rw [Bt.def] at h h2 ⊢
  rw [Int.natAbs_mul, Nat.pow_add]
  exact Nat.mul_lt_mul'' h h2
theorem Bt.of_lt {k : Nat} {i : Int} (h1 : -(2 ^ k : Nat) < i) (h2 : i < (2 ^ k : Nat)) : Bt k i := by
  rw [Bt.def]; omega
theorem Bt.lt {k : Nat} {i : Int} (h : Bt k i) : -((2 ^ k : Nat) : Int) < i ∧ i < ((2 ^ k : Nat) : Int) := by
  rw [Bt.def] at h; omega
theorem Bt.le_abs {k : Nat} {i j : Int} (h : Bt k j) (hi : i.natAbs ≤ j.natAbs) : Bt k i := by
  rw [Bt.def] at h ⊢; exact Nat.lt_of_le_of_lt hi h
theorem Bt.lit {k : Nat} {i : Int} (h : decide (i.natAbs < 2 ^ k) = true) : Bt k i := by
  rw [Bt.def]; exact of_decide_eq_true h
theorem Bt.emod {k : Nat} {i m : Int} (hm : decide (0 < m) = true) (h : decide (m.natAbs ≤ 2 ^ k) = true) : Bt k (i % m) := by
  have h1 : 0 < m := of_decide_eq_true hm
  have h2 : m.natAbs ≤ 2 ^ k := of_decide_eq_true h
  have a := Int.emod_nonneg i (Int.ne_of_gt h1)
  have b := Int.emod_lt_of_pos i h1
  rw [Bt.def]; omega
theorem Bt.emodm {k : Nat} {i m : Int} (hm : 0 < m) (h : Bt k m) : Bt k (i % m) := by
  have a := Int.emod_nonneg i (Int.ne_of_gt hm)
  have b := Int.emod_lt_of_pos i hm
  exact h.le_abs (by omega)
theorem Bt.ediv {k : Nat} {i m : Int} (h : Bt k i) : Bt k (i / m) := by
  refine h.le_abs ?_
  exact Int.natAbs_ediv_le_natAbs i m
theorem Bt.nat {k n : Nat} (h : n < 2 ^ k) : Bt k (n : Int) := by rw [Bt.def]; simpa using h
theorem Bt.log2 {k : Nat} {i : Int} (h : Bt k i) (hk : 0 < k) : i.natAbs.log2 < k := by
  rw [Bt.def] at h
  exact PySem.Flt.log2_lt_of hk h
theorem mulok {k l : Nat} {i j : Int} (h : Bt k i) (h2 : Bt l j) (hs : decide (0 < k ∧ 0 < l ∧ k + l ≤ 100000000) = true) : MulOk i j := by
  obtain ⟨a, b, c⟩ := of_decide_eq_true hs
  have x := h.log2 a
  have y := h2.log2 b
  unfold MulOk; omega
theorem divp {k : Nat} {i j : Int} (h0 : 0 < j) (h : Bt k j) (hs : decide (0 < k ∧ k ≤ 9000) = true) : DivP i j := by
  obtain ⟨a, b⟩ := of_decide_eq_true hs
  exact ⟨h0, Nat.lt_of_lt_of_le (h.log2 a) b⟩
theorem Bt.any {i : Int} : Bt (i.natAbs.log2 + 1) i := by
  rw [Bt.def]; exact Nat.lt_log2_self
theorem Bt.emod' {i m : Int} (hm : decide (0 < m) = true) : Bt (m.natAbs.log2 + 1) (i % m) := Bt.emodm (of_decide_eq_true hm) Bt.any
theorem Bt.ite {k l : Nat} {c : Prop} [Decidable c] {i j : Int} (h : Bt k i) (h2 : Bt l j) : Bt (max k l) (if c then i else j) := by
  split
  · exact h.mono (Nat.le_max_left _ _)
  · exact h2.mono (Nat.le_max_right _ _)
theorem Bt.le {k l : Nat} {i : Int} (h : Bt k i) (hs : decide (k ≤ l) = true) : Bt l i := h.mono (of_decide_eq_true hs)
theorem divp_lit {i j : Int} (h : decide (0 < j ∧ j.natAbs.log2 < 9000) = true) : DivP i j := by
  have := of_decide_eq_true h
  exact this
theorem modp_lit {i j : Int} (h : decide (0 < j) = true) : ModP i j := by
  have := of_decide_eq_true h
  exact this
theorem cpow_lit {i j : Int} (h : decide (0 ≤ j ∧ j ≤ 1000000 ∧ i.natAbs < 2 ^ 64) = true) : CPow i j := by
  have := of_decide_eq_true h
  exact this

theorem ifd {p : Prop} [Decidable p] {A B : Prop} (h1 : p → A) (h2 : ¬ p → B) : if decide p = true then A else B := by
  by_cases h : p
  · rw [if_pos (decide_eq_true h)]; exact h1 h
  · rw [if_neg (fun z => h (of_decide_eq_true z))]; exact h2 h
theorem ifT {c : Bool} {A B : Prop} (hc : c = true) (h : A) : if c = true then A else B := by rw [if_pos hc]; exact h
theorem ifF {c : Bool} {A B : Prop} (hc : c = false) (h : B) : if c = true then A else B := by rw [hc, if_neg Bool.false_ne_true]; exact h
theorem ifb {c : Bool} {A B : Prop} (h1 : c = true → A) (h2 : c = false → B) : if c = true then A else B := by
  cases c with
  | true => exact ifT rfl (h1 rfl)
  | false => exact ifF rfl (h2 rfl)
theorem ifEq {i j : Int} {A B : Prop} (h1 : i = j → A) (h2 : i ≠ j → B) : if eqD (.int i) (.int j) = true then A else B := by
  unfold eqD
  exact ifb (fun h => h1 (by simpa using h)) (fun h => h2 (by simpa using h))
theorem ifNe {i j : Int} {A B : Prop} (h1 : i ≠ j → A) (h2 : i = j → B) : if (!eqD (.int i) (.int j)) = true then A else B := by
  unfold eqD
  exact ifb (fun h => h1 (by simpa using h)) (fun h => h2 (by simpa using h))
theorem ifNot {c : Bool} {A B : Prop} (h1 : c = false → A) (h2 : c = true → B) : if (!c) = true then A else B := by
  cases c with
  | true => exact ifF rfl (h2 rfl)
  | false => exact ifT rfl (h1 rfl)
theorem eqD_int {i j : Int} : eqD (.int i) (.int j) = (i == j) := by unfold eqD; rfl
/-! ### points -/


structure BP (k : Nat) (p : Pt) : Prop where
  x : Bt k p.1
  y : Bt k p.2
theorem BP.mono {k l : Nat} {p : Pt} (h : BP k p) (hl : k ≤ l) : BP l p := ⟨h.x.mono hl, h.y.mono hl⟩
theorem pt_tup (p : Pt) : pt p = .tup [.int p.1, .int p.2] := rfl
theorem cutD_take (xs : List Dat) (n : Nat) : cutD xs none (some (n : Int)) = xs.take n := by
  unfold cutD
  rw [HT.sIx_none, HT.sIx_nat, List.drop_zero, Nat.sub_zero]
  rcases Nat.le_total n xs.length with h | h
  · rw [Nat.min_eq_left h]
  · rw [Nat.min_eq_right h, List.take_of_length_le (Nat.le_refl _), List.take_of_length_le h]
theorem modp_len {α : Type} {f : α → Dat} {xs : List α} {i : Int} (h : xs ≠ []) : ModP i ((xs.map f).length : Int) := by
  have hl : 0 < xs.length := List.length_pos_iff.mpr h
  rw [List.length_map]
  exact (by omega : 0 < (xs.length : Int))
/-- the script: so many numbers, each of so many bits -/
structure Scr (ns : List Int) : Prop where
  len : ns.length ≤ 63
  bt : ∀ z ∈ ns, Bt 1048577 z
/-- a place of a list of like things -/
theorem at_map {α : Type} {f : α → Dat} {xs : List α} {j : Nat} {x : α} (h : xs[j]? = some x) : atI (xs.map f) (j : Int) = some (f x) := atI_nat (by rw [List.getElem?_map, h]; rfl)
theorem at_mapI {α : Type} {f : α → Dat} {xs : List α} {i : Int} {j : Nat} {x : α} (hi : i = (j : Int)) (h : xs[j]? = some x) : atI (xs.map f) i = some (f x) := by rw [hi]; exact at_map h
theorem at_mod {α : Type} {f : α → Dat} {xs : List α} (i : Int) (h : xs ≠ []) : ∃ x ∈ xs, atI (xs.map f) (i % ((xs.map f).length : Int)) = some (f x) := by
  have hl : 0 < xs.length := List.length_pos_iff.mpr h
  rw [List.length_map]
  have h0 := Int.emod_nonneg i (show (xs.length : Int) ≠ 0 by omega)
  have h1 := Int.emod_lt_of_pos i (show 0 < (xs.length : Int) by omega)
  have hj : (i % (xs.length : Int)).toNat < xs.length := by omega
  exact ⟨xs[(i % (xs.length : Int)).toNat], List.getElem_mem hj, at_mapI (j := (i % (xs.length : Int)).toNat) (by omega) (List.getElem?_eq_getElem hj)⟩
end DL
namespace DL
open PySem PySem.Spec PyProof.Rows L2
variable {K : PySem.W.Frag}

/-! ### loops by an invariant over slots -/
theorem for_at {g : DG} {b : DS} {κ : DEnds} (ds : List Dat) (I : Nat → List Sl → Prop)
    (step : ∀ (i : Nat) (d : Dat) (ρ : List Sl) (N : List Sl → Prop), ds[i]? = some d → I i ρ → (∀ ρ', I (i + 1) ρ' → N ρ') → g (.v d) ρ (fun ρ1 => b { κ with nx := N, ct := N, bk := κ.nx } ρ1)) (fin : ∀ ρ, I ds.length ρ → κ.nx ρ) :
    ∀ (k i : Nat) (ρ : List Sl), i + k = ds.length → I i ρ → sForL g b κ (ds.drop i) ρ
  | 0, i, ρ, hk, h => by
    have e : i = ds.length := by omega
    rw [e, List.drop_length]
    rw [e] at h
    exact fin ρ h
  | k + 1, i, ρ, hk, h => by
    have hi : i < ds.length := by omega
    rw [List.drop_eq_getElem_cons hi]
    exact step i _ ρ _ (List.getElem?_eq_getElem hi) h fun ρ' h' => for_at ds I step fin k (i + 1) ρ' (by omega) h'
theorem for_ind {g : DG} {b : DS} {κ : DEnds} {ds : List Dat} (I : Nat → List Sl → Prop) {ρ : List Sl} (h0 : I 0 ρ)
    (step : ∀ (i : Nat) (d : Dat) (ρ : List Sl) (N : List Sl → Prop), ds[i]? = some d → I i ρ → (∀ ρ', I (i + 1) ρ' → N ρ') → g (.v d) ρ (fun ρ1 => b { κ with nx := N, ct := N, bk := κ.nx } ρ1)) (fin : ∀ ρ, I ds.length ρ → κ.nx ρ) : sForL g b κ ds ρ := by
  have := for_at ds I step fin ds.length 0 ρ (by omega) h0
  simpa using this
/-- over a typed list -/
theorem for_map {α : Type} {f : α → Dat} {g : DG} {b : DS} {κ : DEnds} {xs : List α} (I : Nat → List Sl → Prop) {ρ : List Sl} (h0 : I 0 ρ)
    (step : ∀ (i : Nat) (x : α) (ρ : List Sl) (N : List Sl → Prop), xs[i]? = some x → I i ρ → (∀ ρ', I (i + 1) ρ' → N ρ') → g (.v (f x)) ρ (fun ρ1 => b { κ with nx := N, ct := N, bk := κ.nx } ρ1)) (fin : ∀ ρ, I xs.length ρ → κ.nx ρ) : sForL g b κ (xs.map f) ρ := by
  refine for_ind I h0 (fun i d ρ N hd h hn => ?_) (by rw [List.length_map]; exact fin)
  rw [List.getElem?_map] at hd
  obtain ⟨x, hx, rfl⟩ := Option.map_eq_some_iff.mp hd
  exact step i x ρ N hx h hn
/-- over range(0, n): the turn's number -/
theorem for_rng {lo : Int} {g : DG} {b : DS} {κ : DEnds} {n : Nat} (I : Nat → List Sl → Prop) {ρ : List Sl} (h0 : I 0 ρ)
    (step : ∀ (i : Nat) (ρ : List Sl) (N : List Sl → Prop), i < n → I i ρ → (∀ ρ', I (i + 1) ρ' → N ρ') → g (.v (.int (lo + (i : Int)))) ρ (fun ρ1 => b { κ with nx := N, ct := N, bk := κ.nx } ρ1)) (fin : ∀ ρ, I n ρ → κ.nx ρ) : sForL g b κ (rngD lo n) ρ := by
  refine for_map (f := fun (i : Nat) => Dat.int (lo + (i : Int))) (xs := List.range n) I h0 (fun i x ρ N hx h hn => ?_) (by rw [List.length_range]; exact fin)
  have hi : i < n := by
    by_cases hi : i < n
    · exact hi
    · rw [List.getElem?_eq_none (by rw [List.length_range]; omega)] at hx; exact nomatch hx
  rw [List.getElem?_range hi] at hx
  cases hx
  exact step i ρ N hi h hn
theorem for_rngC {lo c : Int} {g : DG} {b : DS} {κ : DEnds} {n : Nat} (I : Nat → List Sl → Prop) {ρ : List Sl} (h0 : I 0 ρ)
    (step : ∀ (i : Nat) (ρ : List Sl) (N : List Sl → Prop), i < n → I i ρ → (∀ ρ', I (i + 1) ρ' → N ρ') → g (.v (.int (lo + (i : Int) * c))) ρ (fun ρ1 => b { κ with nx := N, ct := N, bk := κ.nx } ρ1)) (fin : ∀ ρ, I n ρ → κ.nx ρ) : sForL g b κ (rngDC lo c n) ρ := by
  refine for_map (f := fun (i : Nat) => Dat.int (lo + (i : Int) * c)) (xs := List.range n) I h0 (fun i x ρ N hx h hn => ?_) (by rw [List.length_range]; exact fin)
  have hi : i < n := by
    by_cases hi : i < n
    · exact hi
    · rw [List.getElem?_eq_none (by rw [List.length_range]; omega)] at hx; exact nomatch hx
  rw [List.getElem?_range hi] at hx
  cases hx
  exact step i ρ N hi h hn
theorem while_at {c : DT} {b : DS} {κ : DEnds} (I : Nat → List Sl → Prop)
    (step : ∀ (n : Nat) (ρ : List Sl) (N : List Sl → Prop), I n ρ → (∀ m ρ', m < n → I m ρ' → N ρ') → c ρ (fun k => if k = true then b { κ with nx := N, ct := N, bk := κ.nx } ρ else κ.nx ρ) (fun nm => κ.ex nm ρ)) :
    ∀ (k n : Nat) (ρ : List Sl), n < k → I n ρ → wIter c b κ k ρ
  | 0, n, ρ, hk, h => (Nat.not_lt_zero _ hk).elim
  | k + 1, n, ρ, hk, h => step n ρ _ h fun m ρ' hm h' => while_at I step k m ρ' (by omega) h'
theorem while_ind {c : DT} {b : DS} {κ : DEnds} (I : Nat → List Sl → Prop) (n : Nat) {ρ : List Sl} (h0 : I n ρ)
    (step : ∀ (n : Nat) (ρ : List Sl) (N : List Sl → Prop), I n ρ → (∀ m ρ', m < n → I m ρ' → N ρ') → c ρ (fun k => if k = true then b { κ with nx := N, ct := N, bk := κ.nx } ρ else κ.nx ρ) (fun nm => κ.ex nm ρ)) :
    ∃ k, wIter c b κ k ρ := ⟨n + 1, while_at I step (n + 1) n ρ (by omega) h0⟩

theorem kb {κ : Rv → Prop} {b : Bool} (h : b = true) (k : κ (.v (.bl true))) : κ (.v (.bl b)) := by rw [h]; exact k

/-! ### comprehensions -/
theorem lc_at {g : DG} {t : DT} {e : DE} {ρ : List Sl} {κ : Rv → Prop} (ds : List Dat) (I : Nat → List Dat → Prop)
    (step : ∀ (i : Nat) (d : Dat) (acc : List Dat) (N : List Dat → Prop), ds[i]? = some d → I i acc → (∀ acc', I (i + 1) acc' → N acc') →
      g (.v d) ρ (fun ρ1 => t ρ1 (fun b => if b = true then e ρ1 (fun r => match frz1 r with
        | some x => acc.length < sizeLine ∧ N (acc ++ [x])
        | none => False) (fun _ => False) else N acc) (fun _ => False))) (fin : ∀ acc, I ds.length acc → κ (.n acc)) :
    ∀ (k i : Nat) (acc : List Dat), i + k = ds.length → I i acc → lcL g t e ρ κ acc (ds.drop i)
  | 0, i, acc, hk, h => by
    have e : i = ds.length := by omega
    rw [e, List.drop_length]
    rw [e] at h
    exact fin acc h
  | k + 1, i, acc, hk, h => by
    have hi : i < ds.length := by omega
    rw [List.drop_eq_getElem_cons hi]
    exact step i _ acc _ (List.getElem?_eq_getElem hi) h fun acc' h' => lc_at ds I step fin k (i + 1) acc' (by omega) h'
theorem lc_ind {g : DG} {t : DT} {e : DE} {ρ : List Sl} {κ : Rv → Prop} {ds : List Dat} (I : Nat → List Dat → Prop) (h0 : I 0 [])
    (step : ∀ (i : Nat) (d : Dat) (acc : List Dat) (N : List Dat → Prop), ds[i]? = some d → I i acc → (∀ acc', I (i + 1) acc' → N acc') →
      g (.v d) ρ (fun ρ1 => t ρ1 (fun b => if b = true then e ρ1 (fun r => match frz1 r with
        | some x => acc.length < sizeLine ∧ N (acc ++ [x])
        | none => False) (fun _ => False) else N acc) (fun _ => False))) (fin : ∀ acc, I ds.length acc → κ (.n acc)) : lcL g t e ρ κ [] ds := by
  have := lc_at ds I step fin ds.length 0 [] (by omega) h0
  simpa using this
theorem sz_ok {n : Nat} (h : n < 100000) : n < sizeLine := Nat.lt_of_lt_of_le h (by decide)
/-- [e for x in xs], e told by a function -/
theorem lc_map {α : Type} {f h : α → Dat} {g : DG} {e : DE} {ρ : List Sl} {κ : Rv → Prop} {xs : List α} (hl : xs.length ≤ 100000)
    (step : ∀ (x : α) (N : Rv → Prop), x ∈ xs → N (.v (h x)) → g (.v (f x)) ρ (fun ρ1 => e ρ1 N (fun _ => False))) (k : κ (.n (xs.map h))) : lcL g tYesD e ρ κ [] (xs.map f) := by
  refine lc_ind (fun i acc => acc = (xs.take i).map h) rfl (fun i d acc N hd ha hn => ?_) (fun acc ha => ?_)
  · rw [List.getElem?_map] at hd
    obtain ⟨x, hx, rfl⟩ := Option.map_eq_some_iff.mp hd
    have hi : i < xs.length := by
      by_cases hi : i < xs.length
      · exact hi
      · rw [List.getElem?_eq_none (by omega)] at hx; exact nomatch hx
    have step' := step x (fun r => match frz1 r with
        | some x => acc.length < sizeLine ∧ N (acc ++ [x])
        | none => False) (List.mem_of_getElem? hx) ⟨?_, ?_⟩
    · exact step'
    · rw [ha, List.length_map, List.length_take]; exact sz_ok (by omega)
    · refine hn _ ?_
      rw [ha, List.take_add_one, hx, List.map_append]; rfl
  · rw [ha, List.length_map, List.take_of_length_le (Nat.le_refl _)]; exact k
/-- item by item -/
def All2 {α β : Type} (R : α → β → Prop) (xs : List α) (ys : List β) : Prop := ys.length = xs.length ∧ ∀ (i : Nat) (x : α) (y : β), xs[i]? = some x → ys[i]? = some y → R x y
theorem lc_rel {α β : Type} {f : α → Dat} {h : β → Dat} {g : DG} {e : DE} {ρ : List Sl} {κ : Rv → Prop} {xs : List α} (R : α → β → Prop) (hl : xs.length ≤ 100000)
    (step : ∀ (x : α) (N : Rv → Prop), x ∈ xs → (∀ y, R x y → N (.v (h y))) → g (.v (f x)) ρ (fun ρ1 => e ρ1 N (fun _ => False))) (k : ∀ ys, All2 R xs ys → κ (.n (ys.map h))) : lcL g tYesD e ρ κ [] (xs.map f) := by
  refine lc_ind (fun i acc => ∃ ys : List β, acc = ys.map h ∧ ys.length = min i xs.length ∧ ∀ (j : Nat) (x : α) (y : β), xs[j]? = some x → ys[j]? = some y → R x y) ⟨[], rfl, by simp, fun j x y _ h => by simp at h⟩ (fun i d acc N hd ha hn => ?_) (fun acc ha => ?_)
  · rw [List.getElem?_map] at hd
    obtain ⟨x, hx, rfl⟩ := Option.map_eq_some_iff.mp hd
    have hi : i < xs.length := by
      by_cases hi : i < xs.length
      · exact hi
      · rw [List.getElem?_eq_none (by omega)] at hx; exact nomatch hx
    obtain ⟨ys, rfl, hy, hr⟩ := ha
    have step' := step x (fun r => match frz1 r with
        | some x => (ys.map h).length < sizeLine ∧ N (ys.map h ++ [x])
        | none => False) (List.mem_of_getElem? hx) (fun y hxy => ⟨?_, ?_⟩)
    · exact step'
    · rw [List.length_map]; exact sz_ok (by omega)
    · refine hn _ ⟨ys ++ [y], by rw [List.map_append]; rfl, by rw [List.length_append, hy, List.length_singleton]; omega, fun j x' y' h1 h2 => ?_⟩
      by_cases hj : j < ys.length
      · rw [List.getElem?_append_left hj] at h2
        exact hr j x' y' h1 h2
      · have hj2 : j = ys.length := by
          by_cases hj3 : j = ys.length
          · exact hj3
          · rw [List.getElem?_eq_none (by rw [List.length_append, List.length_singleton]; omega)] at h2; exact nomatch h2
        have : j = i := by omega
        subst this
        rw [hj2, List.getElem?_append_right (Nat.le_refl _), Nat.sub_self] at h2
        rw [hx] at h1
        cases h1
        have : y = y' := by simpa using h2
        rw [← this]; exact hxy
  · obtain ⟨ys, rfl, hy, hr⟩ := ha
    rw [List.length_map] at hy
    exact k ys ⟨by omega, hr⟩

/-! ### the cells of a script -/
structure Cls (cs : List Int) : Prop where
  ne : cs ≠ []
  len : cs.length ≤ 60
  bt : ∀ z ∈ cs, Bt 1048577 z
theorem Cls.ix {cs : List Int} (h : Cls cs) (i : Int) {κ : Dat → Prop} (k : ∀ z, Bt 1048577 z → κ (.int z)) : onS (atI (cs.map Dat.int) (i % ((cs.map Dat.int).length : Int))) κ := by
  obtain ⟨z, hz, e⟩ := at_mod (f := Dat.int) i h.ne
  exact onS_some e (k z (h.bt z hz))
theorem Cls.one : Cls [0] := ⟨by simp, by simp, fun z hz => by rw [List.mem_singleton.mp hz]; exact (Bt.lit (k := 1) rfl).mono (by decide)⟩
theorem Cls.take {ns : List Int} (hs : Scr ns) (h : ns.take 60 ≠ []) : Cls (ns.take 60) := ⟨h, by rw [List.length_take]; omega, fun z hz => hs.bt z (List.mem_of_mem_take hz)⟩
theorem Cls.modp {cs : List Int} (h : Cls cs) {i : Int} : ModP i ((cs.map Dat.int).length : Int) := modp_len h.ne
theorem Cls.rng {cs : List Int} (h : Cls cs) : -(2 ^ 62) ≤ ((cs.map Dat.int).length : Int) ∧ ((cs.map Dat.int).length : Int) < 2 ^ 62 := by
  have := h.len
  rw [List.length_map]; omega
/-- cells = script[:60]; if len(cells) == 0: cells = [0] -/
theorem cells_go {T : DS} {κ : DEnds} {ns : List Int} {s1 : Sl} {ρ : List Sl} (hs : Scr ns) (h : ∀ cs, Cls cs → T κ (.br (ns.map Dat.int) :: .ow (cs.map Dat.int) :: ρ)) :
    sSeq (sAsg (dCut (dVar 0) (oNone) (oSome (dC (.int 60)))) (gN 1)) (sSeq (sIf (tVal (dEq (dB kLen (aCons (dVar 1) (aNil))) (dC (.int 0)))) (sAsg (dLst (aCons (dC (.int 0)) (aNil))) (gN 1)) (sNil)) T) κ (.br (ns.map Dat.int) :: s1 :: ρ) := by
  have e : cutD (ns.map Dat.int) none (some 60) = (ns.take 60).map Dat.int := by rw [List.map_take]; exact cutD_take _ 60
  show (sSeq (sIf (tVal (dEq (dB kLen (aCons (dVar 1) (aNil))) (dC (.int 0)))) (sAsg (dLst (aCons (dC (.int 0)) (aNil))) (gN 1)) (sNil)) T) κ (.br (ns.map Dat.int) :: .ow (cutD (ns.map Dat.int) none (some 60)) :: ρ)
  rw [e]
  refine ⟨⟨rfl, rfl⟩, ifEq (fun h0 => ?_) (fun h0 => ?_)⟩
  · exact ⟨rfl, h [0] Cls.one⟩
  · exact h _ (Cls.take hs fun z => h0 (by rw [z]; rfl))
/-- a number of so many bits of a number of so many -/
@[irreducible] def S_num (B k : Nat) : Fsp := fun ds κ _ => ∃ c : Int, ds = [.int c] ∧ Bt B c ∧ ∀ z, Bt k z → κ (.v (.int z))
theorem S_num_go {B k : Nat} {c : Int} {κ : Rv → Prop} {ε : Str → Prop} (h : Bt B c) (q : ∀ z, Bt k z → κ (.v (.int z))) : S_num B k [.int c] κ ε := by unfold S_num; exact ⟨c, rfl, h, q⟩
theorem S_num.out {B k : Nat} {ds : List Dat} {κ : Rv → Prop} {ε : Str → Prop} (h : S_num B k ds κ ε) : ∃ c : Int, ds = [.int c] ∧ Bt B c ∧ ∀ z, Bt k z → κ (.v (.int z)) := by unfold S_num at h; exact h
/-! ### sums over lists -/
def sm {α : Type} (f : α → Int) : List α → Int
  | [] => 0
  | x :: xs => f x + sm f xs
theorem sm_append {α : Type} (f : α → Int) : ∀ xs ys : List α, sm f (xs ++ ys) = sm f xs + sm f ys
  | [], ys => by simp [sm]
  | x :: xs, ys => by
    show f x + sm f (xs ++ ys) = f x + sm f xs + sm f ys
    rw [sm_append f xs ys]; omega
theorem sm_take {α : Type} (f : α → Int) {xs : List α} {i : Nat} {x : α} (h : xs[i]? = some x) : sm f (xs.take (i + 1)) = sm f (xs.take i) + f x := by
  rw [List.take_add_one, h, sm_append]
  show _ + (f x + 0) = _
  omega
theorem sm_rev {α : Type} (f : α → Int) : ∀ xs : List α, sm f xs.reverse = sm f xs
  | [] => rfl
  | x :: xs => by
    rw [List.reverse_cons, sm_append, sm_rev f xs]
    show _ + (f x + 0) = f x + _
    omega
theorem sm_all {α : Type} (f : α → Int) (xs : List α) : sm f (xs.take xs.length) = sm f xs := by rw [List.take_length]
/-! ### range(lo, hi, c) -/
theorem rng3_go {lo hi c : Int} {κ : List Dat → Prop} (h1 : -(2 ^ 61) ≤ lo) (h2 : lo < 2 ^ 61) (h3 : -(2 ^ 61) ≤ hi) (h4 : hi < 2 ^ 61) (hc : 0 < c) (hc2 : c < 1000000) (k : κ (rngDC lo c (rN lo hi c))) : ∃ n, RgC lo hi c n ∧ κ (rngDC lo c n) := ⟨_, rgC_up h1 h2 h3 h4 hc hc2, k⟩
theorem rN_lt {lo hi c : Int} (hc : 0 < c) {i : Nat} (h : i < rN lo hi c) : lo + (i : Int) * c < hi := by
  unfold rN at h
  split at h
  · rename_i hlt
    have h0 : 0 ≤ (hi - lo - 1) / c := Int.ediv_nonneg (by omega) (by omega)
    have h1 : (i : Int) ≤ (hi - lo - 1) / c := by omega
    have h2 := Int.mul_le_of_le_ediv hc h1
    omega
  · omega
theorem rN_le {lo hi c : Int} (hc : 0 < c) {n : Nat} (h : hi ≤ lo + (n : Int) * c) : rN lo hi c ≤ n := by
  rcases Nat.lt_or_ge n (rN lo hi c) with z | z
  · have := rN_lt hc z
    omega
  · exact z
theorem Scr.len' {ns : List Int} (h : Scr ns) : (ns.map Dat.int).length ≤ 63 := by rw [List.length_map]; exact h.len
/-- one more at the end -/
theorem map_snoc {α : Type} (f : α → Dat) (xs : List α) (x : α) : xs.map f ++ [f x] = (xs ++ [x]).map f := by rw [List.map_append]; rfl
theorem all_snoc {α : Type} {P : α → Prop} {xs : List α} {x : α} (h : ∀ y ∈ xs, P y) (hx : P x) : ∀ y ∈ xs ++ [x], P y := fun y hy => by
  rcases List.mem_append.mp hy with z | z
  · exact h y z
  · rw [List.mem_singleton.mp z]; exact hx
theorem szm {α : Type} {f : α → Dat} {xs : List α} (h : xs.length < 100000) : (xs.map f).length < sizeLine := by rw [List.length_map]; exact sz_ok h
/-! ### the same of a list that is equal to a typed one -/
theorem lc_map' {α : Type} {f h : α → Dat} {g : DG} {e : DE} {ρ : List Sl} {κ : Rv → Prop} {ds : List Dat} (xs : List α) (eq : ds = xs.map f) (hl : xs.length ≤ 100000)
    (step : ∀ (x : α) (N : Rv → Prop), x ∈ xs → N (.v (h x)) → g (.v (f x)) ρ (fun ρ1 => e ρ1 N (fun _ => False))) (k : κ (.n (xs.map h))) : lcL g tYesD e ρ κ [] ds := by
  rw [eq]; exact lc_map hl step k
theorem lc_rel' {α β : Type} {f : α → Dat} {h : β → Dat} {g : DG} {e : DE} {ρ : List Sl} {κ : Rv → Prop} {ds : List Dat} (xs : List α) (eq : ds = xs.map f) (R : α → β → Prop) (hl : xs.length ≤ 100000)
    (step : ∀ (x : α) (N : Rv → Prop), x ∈ xs → (∀ y, R x y → N (.v (h y))) → g (.v (f x)) ρ (fun ρ1 => e ρ1 N (fun _ => False))) (k : ∀ ys, All2 R xs ys → κ (.n (ys.map h))) : lcL g tYesD e ρ κ [] ds := by
  rw [eq]; exact lc_rel R hl step k
theorem for_map' {α : Type} {f : α → Dat} {g : DG} {b : DS} {κ : DEnds} {ds : List Dat} (xs : List α) (eq : ds = xs.map f) (I : Nat → List Sl → Prop) {ρ : List Sl} (h0 : I 0 ρ)
    (step : ∀ (i : Nat) (x : α) (ρ : List Sl) (N : List Sl → Prop), xs[i]? = some x → I i ρ → (∀ ρ', I (i + 1) ρ' → N ρ') → g (.v (f x)) ρ (fun ρ1 => b { κ with nx := N, ct := N, bk := κ.nx } ρ1)) (fin : ∀ ρ, I xs.length ρ → κ.nx ρ) : sForL g b κ ds ρ := by
  rw [eq]; exact for_map I h0 step fin
theorem cutD_nat (ds : List Dat) {i j : Nat} {a b : Int} (ea : a = (i : Int)) (eb : b = (j : Int)) (hij : i ≤ j) (hj : j ≤ ds.length) : cutD ds (some a) (some b) = (ds.drop i).take (j - i) := by
  subst ea eb
  unfold cutD
  rw [HT.sIx_nat, HT.sIx_nat, Nat.min_eq_left hj, Nat.min_eq_left (Nat.le_trans hij hj)]
theorem cutD_map {α : Type} (f : α → Dat) (xs : List α) {i j : Nat} {a b : Int} (ea : a = (i : Int)) (eb : b = (j : Int)) (hij : i ≤ j) (hj : j ≤ xs.length) : cutD (xs.map f) (some a) (some b) = ((xs.drop i).take (j - i)).map f := by
  rw [cutD_nat _ ea eb hij (by rw [List.length_map]; exact hj), List.map_take, List.map_drop]
theorem All2.mem {α β : Type} {R : α → β → Prop} {P : β → Prop} {xs : List α} {ys : List β} (h : All2 R xs ys) (hp : ∀ x ∈ xs, ∀ y, R x y → P y) : ∀ y ∈ ys, P y := fun y hy => by
  obtain ⟨i, hi⟩ := List.getElem?_of_mem hy
  have hl : i < xs.length := by
    have : i < ys.length := by
      by_cases z : i < ys.length
      · exact z
      · rw [List.getElem?_eq_none (by omega)] at hi; exact nomatch hi
    rw [← h.1]; exact this
  have hx : xs[i]? = some xs[i] := List.getElem?_eq_getElem hl
  exact hp _ (List.getElem_mem hl) y (h.2 i _ y hx hi)
end DL
/-! defs called with fewer arguments: the rest are written ints -/
namespace DL
open PySem PySem.Spec PyProof.Rows L2
variable {K : PySem.W.Frag}
theorem args_app {G H : Hp} : ∀ {m1 m2 : List Bool} {d1 d2 : List Dat} {v1 v2 : List V}, ArgsR K G H m1 d1 v1 → ArgsR K G H m2 d2 v2 → ArgsR K G H (m1 ++ m2) (d1 ++ d2) (v1 ++ v2)
  | [], _, _, _, _, _, h1, h2 => by obtain ⟨rfl, rfl⟩ := h1; exact h2
  | m :: m1, _, _, _, _, _, h1, h2 => by
    obtain ⟨d, e, v, w, rfl, rfl, a, b⟩ := h1
    exact ⟨d, _, v, _, rfl, rfl, a, args_app b h2⟩
theorem args_ints {G H : Hp} : ∀ {ms : List Bool} {is : List Int}, is.length = ms.length → ArgsR K G H ms (is.map Dat.int) (is.map V.int)
  | [], [], _ => ⟨rfl, rfl⟩
  | m :: ms, i :: is, h => by
    refine ⟨.int i, _, .int i, _, rfl, rfl, ?_, args_ints (by simpa using h)⟩
    have r : RdD K G (.int i) (.int i) := by unfold RdD; rfl
    cases m with
    | true => exact r
    | false => exact .inl r
  | [], _ :: _, h => nomatch h
  | _ :: _, [], h => nomatch h
theorem sp_runD {mg : MG} {W : WX} {H0 G H G1 H1 : Hp} {σ : L2.St} {ms : List Bool} {S : Fsp} {rs : List Rv} {vs : List V} {ds : List Dat} {is : List Int} {κ : Rv → Prop} {ε : Str → Prop} {Q : VK} (s0 : Same H0 H1) (x1 : Ext H G H1 G1) (h : RvsR K H0 G1 H H1 rs vs) (hl : (ms.drop rs.length).length = is.length) (e : conv (ms.take rs.length) rs = some ds) (k : S (ds ++ is.map Dat.int) κ ε)
    (hq : ∀ v H' G' r, Ext H G H' G' → RvR K H0 G' H H' r v → κ r → Q v H') (hx : XOk mg W H G σ ε) : spOf K mg ms S (vs ++ is.map V.int) H1 Q (WE W σ) := by
  obtain ⟨G2, x2, s2, r2⟩ := conv_ok s0 x1 (ms.take rs.length) rs vs ds h e
  have r3 := args_app r2 (args_ints (K := K) (G := G2) (H := H1) hl.symm)
  rw [List.take_append_drop] at r3
  refine ⟨G2, _, x2.s, r3, κ, ε, k, fun v H' G' r x hr ok kr => ?_, fun nm cls H' G' x h1 h2 => hx nm cls H' G' (x2.trans x) h1 h2⟩
  refine hq v H' G' r (x2.trans x) ?_ kr
  cases r with
  | v d => exact hr
  | n ds => obtain ⟨l, vs, a, b, c, n, g⟩ := hr; exact ⟨l, vs, a, b, c, x2.h.free n, g⟩
  | b ds => exact nomatch ok
  | o ds => exact nomatch ok
/-- a def with written ints as the last defaults -/
structure CalK (P : Program) (w : World) (K : PySem.W.Frag) (mg : MG) (base : Heap) (j : Nat) (x : Str) (ps : List Str) (ms : List Bool) (S : Fsp) (is : List Int) : Prop where
  ex : ∃ f fd ds, FnOk P w K mg base (L2.CX P w) j f fd ps (spOf K mg ms S) ∧ mg x = some (.ref f) ∧ PySem.W.keepIn K (.ref f) = true ∧ Binds K fd ps [] ∧ Vals (is.map V.int) ds ∧ Binds K fd ps ds
theorem CalK.cal {P : Program} {w : World} {mg : MG} {base : Heap} {j : Nat} {x : Str} {ps : List Str} {ms : List Bool} {S : Fsp} {is : List Int} (h : CalK P w K mg base j x ps ms S is) : Cal P w K mg base j x ps ms S := by
  obtain ⟨f, fd, ds, a, b, c, d, _⟩ := h
  exact ⟨f, fd, a, b, c, d⟩
def dCallD (ms : List Bool) (S : Fsp) (is : List Int) (a : DA) : DE := fun ρ κ ε => a ρ (fun rs => match conv (ms.take rs.length) rs with
  | some ds => (ms.drop rs.length).length = is.length ∧ S (ds ++ is.map Dat.int) κ ε
  | none => False) ε
section
variable {X : Cx} {W : WX} {e : Expr} {es : List Expr} {da : DA} {x : Str} {p pos : Pos} {ps : List Str} {ms : List Bool} {S : Fsp} {is : List Int} {k j : Nat}
theorem me_callD (C : Cn X W k) (F : CalK X.prog X.w X.K X.mg X.base j x ps ms S is) (ha : MA X W (e :: es) da) (hj : j ≤ k := by decide) (hg : Gl X x := by rfl)
    (hdb : (x == ("__debug__" : Str)) = false := by decide) (he : starEach (e :: es) X.env = (false, eval e X.env) :: starEach es X.env := by rfl) (hpl : (backTo pos (starEach es X.env)).any (·.1) = false := by rfl) :
    ME X W (.Call (.Name x p) (e :: es) [] pos) (dCallD ms S is da) := by
  obtain ⟨f, fd, dv, F, hm, hk, _, hv, hb⟩ := F
  obtain ⟨t, pa, oa⟩ := ha
  refine ⟨_, pe_callSD F (C.hr.mono hj) hg hm hk hb hv (fun σ => passAt C.tk σ) pa hdb he hpl, fun H0 G0 G ρ σ H Q κ ε R h hq hx => ?_⟩
  refine oa H0 G0 G ρ σ H _ _ ε R h (fun vs H1 G1 rs x1 hr k1 => ?_) hx
  split at k1
  · rename_i ds ed
    exact sp_runD (R.on x1).ext.h x1 hr k1.1 ed k1.2 hq hx
  · exact k1.elim
end
section
variable {P : Program} {w : World} {mg : MG} {base : Heap}
theorem fn_dlD {x qual : Str} {st : Stmt} {f : Addr} {fd : FuncData} {N ps : List Str} {k : Nat} {ms : List Bool} {S : Fsp} {δ : DS} {dvs : List V} {kws : List (Str × V)} (F : FunD K x qual (defArgs st) (defBody st) (defScope st) dvs kws f fd) (sc : FnScope N ps (defScope st)) (hms : ms.length = ps.length)
    (hb : ∀ (cdv : Value) (A : Around) (outer : List Env) (s : Shared) (H : Hp) (E : XK), Cn (cxOf (L2.CX P w) P w K mg base N qual (defScope st) f cdv A outer s H E) (WE0 E) k → MSs (cxOf (L2.CX P w) P w K mg base N qual (defScope st) f cdv A outer s H E) (WE0 E) (defBody st) δ)
    (sem : ∀ ds κ ε, S ds κ ε → δ (endsOf κ ε) (entry ms N.length ds)) : FnOk P w K mg base (L2.CX P w) (k + 1) f fd ps (spOf K mg ms S) := by
  refine F.ok sc (fun vs H Q E ⟨G, ds, _, h, _⟩ => by rw [args_len h, hms]) (fun cdv A outer s H vs Q E hr hsp => ?_)
  obtain ⟨G, ds, s1, h1, κ, ε, hS, hq, hx⟩ := hsp
  have C : Cn (cxOf (L2.CX P w) P w K mg base N qual (defScope st) f cdv A outer s H E) (WE0 E) k := ⟨takes_of rfl rfl rfl rfl, passes_of rfl, rfl, hr, sc.nd⟩
  obtain ⟨t, pt, ot⟩ := hb cdv A outer s H E C
  refine ⟨t, pt, ot H G G _ _ H _ (endsOf κ ε) (entry_rel s1 h1) (sem ds κ ε hS) ?_⟩
  refine ⟨fun ρ σ H' G' R k => ?_, fun _ _ _ _ _ k => k.elim, fun _ _ _ _ _ k => k.elim, fun v H' G' r x hr ok k => hq v H' G' r x hr ok k, fun nm cls ρ σ H' G' R h k => hx nm cls H' G' R.ext h k⟩
  exact hq _ H' G' (.v .non) R.ext (by show RdD K _ _ _; unfold RdD; rfl) rfl k
end
/-- a def with one written int as its default -/
theorem funD_mk {x qual : Str} {st : Stmt} {f T : Addr} {oc tc : Value} {od td an : Option Addr} {osl tsl : Array (Option Value)} {kV doc pm cdv ct : Value} {i : Int} {tk : Tok} {n : Nat}
    (l : K.lookup f = some ⟨oc, od, .func (PySem.W.fnOf x qual (defArgs st) (defBody st) (defScope st) (.ref T) kV doc pm an cdv ct), osl⟩) (t : K.lookup T = some ⟨tc, td, .seq #[.int i tk] n, tsl⟩)
    (c : PySem.W.codeIn K cdv qual = true) (k : PySem.W.keepIn K (.ref f) = true) : FunD K x qual (defArgs st) (defBody st) (defScope st) [.int i] [] f (PySem.W.fnOf x qual (defArgs st) (defBody st) (defScope st) (.ref T) kV doc pm an cdv ct) :=
  ⟨⟨oc, od, .ref T, kV, doc, pm, an, cdv, ct, osl, rfl, l, c, .inr ⟨by simp, T, _, [.int i tk], n, rfl, t, rfl, .cons ⟨tk, rfl⟩ .nil⟩, .inl rfl⟩, k⟩
end DL
/-! range(a, b) of any two numbers -/
namespace DL
open PySem PySem.Spec PyProof.Rows L2
variable {K : PySem.W.Frag}
theorem turn_longC {P : Program} {w : World} {K : PySem.W.Frag} {tg : Expr} (it : Addr) (lo c : Int) (n : Nat) : Turn P w K tg (Itc lo c n) [it] it (fun i h => IsLongIter h it (lo + (i : Nat) * c) ((n : Int) - (i : Nat)) c) where
  mem := by simp
  obj := fun i h st b hb => by
    have e : b = it := by simpa using hb
    subst e
    exact ⟨_, st, fun v z => nomatch z⟩
  keep := fun i h h' st k => k it (by simp) _ st
  item := by
    intro X hP hw hK hc i pins s σ H E I hf st hg
    subst hP hw hK
    obtain ⟨f0, f1, f2, f3, f4, f5⟩ := hf it (by simp)
    have W := Walks.longrange (prog := X.prog) (w := X.w) (I.ok.hd hc) it lo c n
    refine W.item i s _ _ hg st fun v h' tk hv st' kk => ?_
    obtain ⟨t, rfl⟩ := hv
    have I1 : Inv X pins σ H { s with heap := h', toks := tk } := I.turned (fun b o hb e => kk b o (by simpa using hb) e) f0 f1 f3 f4 f5
    exact ⟨_, rfl, go_of (s := { s with heap := h', toks := tk }) (n := "longrange_iterator") st' rfl rfl (by decide) ⟨.int (lo + (i : Nat) * c), H, I1, ⟨t, rfl⟩, ⟨rfl, rfl⟩, st', fun b hb => (hf b hb).1⟩⟩
  done := by
    intro X hP hw hK hc i pins s σ H E I hf st hg
    subst hP hw hK
    obtain ⟨f0, f1, f2, f3, f4, f5⟩ := hf it (by simp)
    exact wpAny_pyNext_long_end (I.ok.hd hc) st (by have : n ≤ i := hg; omega) fun h' eb => ⟨rfl, I.turned (t' := s.toks) (fun b o hb e => eb b o hb e) f0 f1 f3 f4 f5⟩
  self := fun A i s Q E st h => wpAny_pyIter_longiter st h
def tRngL2 (ta : TA) : TI := fun σ H R => ta σ H fun vs H1 => ∃ i j : Int, vs = [.int i, .int j] ∧ R (Itc i 1 (j - i).toNat) H1
section
variable {X : Cx} {tg : Expr}
theorem pi_rangeL2 {a b : Expr} {ta : TA} {p pos : Pos} (hg : Gl X "range") (hm : X.mg "range" = none) (ha : PA X [a, b] ta) (hs : starEach [a, b] X.env = [(false, eval a X.env), (false, eval b X.env)] := by rfl) (hs2 : starEach [b] X.env = [(false, eval b X.env)] := by rfl) :
    PI X tg (.Call (.Name "range" p) [a, b] [] pos) (tRngL2 ta) := by
  refine ⟨fun pins s σ H R I h => ?_⟩
  refine Call_ (ld_blt I hg hm boot_range (PyProof.Rows.callWith_type1 (thn (ha.run pos pins s σ H _ I h) fun us s1 ⟨vs, H1, I1, r1, q1⟩ => ?_) (by rw [hs, hs2]) (by rw [hs2]; rfl)))
  obtain ⟨i, j, e, q⟩ := q1
  subst e
  cases r1 with
  | cons r rr =>
    cases rr with
    | cons r' rr =>
      cases rr
      obtain ⟨t, rfl⟩ := r
      obtain ⟨t', rfl⟩ := r'
      refine call_range_2 ?_
      have e1 : i + ((0 : Nat) : Int) * 1 = i := by simp
      have e2 : (((j - i).toNat : Nat) : Int) - ((0 : Nat) : Int) = Builtin.Range.rangeSize i j 1 := by rw [rangeSize_one]; split <;> omega
      by_cases sm : Builtin.Range.small i j 1 = true
      · refine wpAny_pyIter_range (IsRange.new ..) sm ?_
        refine pi_one (tk := s1.toks + 1) (I1.kept (t' := s1.toks + 1) fun b o e => Heap.get?_push_of_some _ e) _ (turn_rangeC _ i 1 (j - i).toNat) ?_ q
        show IsRangeIter _ _ (i + ((0 : Nat) : Int) * 1) ((((j - i).toNat : Nat) : Int) - ((0 : Nat) : Int)) 1
        rw [e1, e2]
        exact Heap.get?_push_size _ rfl
      · refine wpAny_pyIter_longrange (IsRange.new ..) (by simpa using sm) ?_
        refine pi_one (tk := s1.toks + 1) (I1.kept (t' := s1.toks + 1) fun b o e => Heap.get?_push_of_some _ e) _ (turn_longC _ i 1 (j - i).toNat) ?_ q
        show IsLongIter _ _ (i + ((0 : Nat) : Int) * 1) ((((j - i).toNat : Nat) : Int) - ((0 : Nat) : Int)) 1
        rw [e1, e2]
        exact Heap.get?_push_size _ rfl
end
def iRngL2 (a b : DE) : DI := fun ρ κ ε => a ρ (fun x => b ρ (fun y => asI x fun i => asI y fun j => κ (rngD i (j - i).toNat)) ε) ε
theorem rngD_one (i : Int) (n : Nat) : ((List.range n).map fun (k : Nat) => Dat.int (i + (k : Int) * 1)) = rngD i n := by
  unfold rngD
  congr 1
  funext k
  rw [Int.mul_one]
section
variable {X : Cx} {W : WX} {tg a b : Expr} {da db : DE} {c : Bool}
theorem mi_rngL2 {p pos : Pos} (hm : X.mg "range" = none) (ha : ME X W a da) (hb : ME X W b db) (hg : Gl X "range" := by rfl) (hs : starEach [a, b] X.env = [(false, eval a X.env), (false, eval b X.env)] := by rfl) (hs2 : starEach [b] X.env = [(false, eval b X.env)] := by rfl) : MI X W c tg (.Call (.Name "range" p) [a, b] [] pos) (iRngL2 da db) := by
  obtain ⟨t, pa, oa⟩ := ha
  obtain ⟨u, pb, ob⟩ := hb
  refine ⟨_, pi_rangeL2 hg hm (pa_cons pa (pa_cons pb pa_nil hs2) (by rw [hs, hs2])) hs hs2, fun H0 G0 G ρ σ H R κ ε RR h hq hx => ?_⟩
  refine oa H0 G0 G ρ σ H _ _ ε RR h (fun v H1 G1 r x1 hr k => ?_) hx
  refine ob H0 G0 G1 ρ σ H1 _ _ ε (RR.on x1) k (fun w H2 G2 z x2 hz k2 => ?_) (hx.on x1)
  obtain ⟨i, rfl, k3⟩ := asI.of k2
  obtain ⟨j, rfl, k4⟩ := asI.of k3
  have hr : RdD X.K G1 (.int i) v := hr
  have hz : RdD X.K G2 (.int j) w := hz
  unfold RdD at hr hz
  subst hr hz
  rw [← rngD_one] at k4
  exact ⟨i, j, rfl, hq _ H2 G2 _ (x1.trans x2) itOk_rngC k4⟩
end
theorem cutD_any (ds : List Dat) (i j : Nat) : cutD ds (some (i : Int)) (some (j : Int)) = (ds.drop i).take (j - i) := by
  unfold cutD
  rw [HT.sIx_nat, HT.sIx_nat]
  rcases Nat.le_total ds.length i with h | h
  · rw [Nat.min_eq_right h, List.drop_eq_nil_of_le (Nat.le_refl _), List.drop_eq_nil_of_le h, List.take_nil, List.take_nil]
  · rw [Nat.min_eq_left h]
    rcases Nat.le_total j ds.length with h2 | h2
    · rw [Nat.min_eq_left h2]
    · rw [Nat.min_eq_right h2, List.take_of_length_le (by rw [List.length_drop]; omega), List.take_of_length_le (by rw [List.length_drop]; omega)]
end DL
/-! list.count of ints -/
namespace DL
open PySem PySem.Spec PyProof.Rows L2
variable {K : PySem.W.Frag}
def dCount (a b : DE) : DE := fun ρ κ ε => a ρ (fun x => asL x fun ds => onS (intsD ds) fun ns => b ρ (fun y => asI y fun k => κ (.v (.int ((ns.count k : Nat) : Int)))) ε) ε
section
variable {X : Cx} {W : WX} {o e : Expr} {da db : DE} {p3 p4 : Pos}
theorem me_lcount (ha : ME X W o da) (hb : ME X W e db) (hbase : attributeBase o "count" X.env (eval o X.env) = eval o X.env := by rfl) (hst : starEach (e :: []) X.env = (false, eval e X.env) :: starEach [] X.env := by rfl) (hline : (p3.endLine == p4.line) = true := by rfl)
    (hfew : ((backTo p4 (starEach (e :: []) X.env)).all (!·.1) && (backToKw p4 (keywordEach [] X.env)).all (·.1.isSome) && decide ((e :: []).length + ([] : List Keyword).length + (if ([] : List Keyword).isEmpty then 0 else 1) < 30)) = true := by rfl) :
    ME X W (.Call (.Attribute o "count" p3) [e] [] p4) (dCount da db) := by
  obtain ⟨t, pa, oa⟩ := ha
  obtain ⟨t2, pb, ob⟩ := hb
  refine ⟨_, pe_bm PySem.F.plainAttrs_list PySem.F.slot_list_count PySem.F.type_list_count mt_lcount pa (pa_cons pb pa_nil hst) hbase (hfew := hfew) (hline := hline) (hs := hst), fun H0 G0 G ρ σ H Q κ ε R h hq hx => ?_⟩
  refine oa H0 G0 G ρ σ H _ _ ε R h (fun v H1 G1 r x1 hr k1 => ?_) hx
  obtain ⟨ds, e1, k1⟩ := asL.of k1
  obtain ⟨ns, e2, k1⟩ := onS.of k1
  have sA : Same G1 H1 := x1.s
  obtain ⟨l, ev, hs⟩ := intsQ sA (R.on x1).ext.h hr e1 e2
  subst ev
  refine ⟨.inl ⟨rfl, _, hs⟩, ?_⟩
  refine ob H0 G0 G1 ρ σ H1 _ _ ε (R.on x1) k1 (fun y H2 G2 r2 x2 hr2 k2 => ?_) (hx.on x1)
  unfold asI at k2
  split at k2
  · rename_i k
    have hy : RdD X.K G2 (.int k) y := hr2
    unfold RdD at hy
    subst hy
    exact ⟨l, ns, k, rfl, rfl, rd_mono x2.h hs, hq (.int _) H2 G2 (.v (.int _)) (x1.trans x2) (by show RdD X.K G2 (.int _) _; unfold RdD; rfl) k2⟩
  · exact k2.elim
/-- the first place of a thing in a list -/
def dIndexA (a b : DE) : DE := fun ρ κ ε => a ρ (fun x => asL x fun ds => b ρ (fun y => (shp 64 y.dat = true ∧ shp 64 (.lst ds) = true) ∧ ∃ (j : Nat) (z : Dat), ds[j]? = some z ∧ eqD z y.dat = true ∧ (∀ (m : Nat) (z' : Dat), m < j → ds[m]? = some z' → eqD z' y.dat = false) ∧ κ (.v (.int (j : Int)))) ε) ε
theorem toPyL_get : ∀ (ds : List Dat) (j : Nat), (toPyL ds)[j]? = ds[j]?.map toPy
  | [], j => by unfold toPyL; simp
  | d :: ds, 0 => by unfold toPyL; rfl
  | d :: ds, j + 1 => by unfold toPyL; rw [List.getElem?_cons_succ, List.getElem?_cons_succ, toPyL_get ds j]
theorem plain_get : ∀ {ds : List Dat} {j : Nat} {z : Dat}, plainDL ds = true → ds[j]? = some z → plainD z = true
  | d :: ds, 0, z, p, h => by unfold plainDL at p; rw [Bool.and_eq_true] at p; cases h; exact p.1
  | d :: ds, j + 1, z, p, h => by unfold plainDL at p; rw [Bool.and_eq_true] at p; exact plain_get p.2 (by rw [List.getElem?_cons_succ] at h; exact h)
  | [], j, z, p, h => by simp at h
theorem me_index (hu : X.A.units + 65 < cLine) (ha : ME X W o da) (hb : ME X W e db) (hbase : attributeBase o "index" X.env (eval o X.env) = eval o X.env := by rfl) (hst : starEach (e :: []) X.env = (false, eval e X.env) :: starEach [] X.env := by rfl) (hline : (p3.endLine == p4.line) = true := by rfl)
    (hfew : ((backTo p4 (starEach (e :: []) X.env)).all (!·.1) && (backToKw p4 (keywordEach [] X.env)).all (·.1.isSome) && decide ((e :: []).length + ([] : List Keyword).length + (if ([] : List Keyword).isEmpty then 0 else 1) < 30)) = true := by rfl) :
    ME X W (.Call (.Attribute o "index" p3) [e] [] p4) (dIndexA da db) := by
  obtain ⟨t, pa, oa⟩ := ha
  obtain ⟨t2, pb, ob⟩ := hb
  refine ⟨_, pe_bm PySem.F.plainAttrs_list PySem.F.slot_list_index PySem.F.type_list_index (mt_indexD hu) pa (pa_cons pb pa_nil hst) hbase (hfew := hfew) (hline := hline) (hs := hst), fun H0 G0 G ρ σ H Q κ ε R h hq hx => ?_⟩
  refine oa H0 G0 G ρ σ H _ _ ε R h (fun v H1 G1 r x1 hr k1 => ?_) hx
  obtain ⟨ds, e1, k1⟩ := asL.of k1
  have sA : Same G1 H1 := x1.s
  obtain ⟨l, vs, ev, hs, rl⟩ := hr.lst sA (R.on x1).ext.h e1
  subst ev
  refine ⟨.inl ⟨rfl, _, hs⟩, ?_⟩
  refine ob H0 G0 G1 ρ σ H1 _ _ ε (R.on x1) k1 (fun y H2 G2 r2 x2 hr2 k2 => ?_) (hx.on x1)
  obtain ⟨⟨p1, p2⟩, j, z, h1, h2, h3, k2⟩ := k2
  have hr' : RvR X.K H0 G2 H H2 r (V.ref l) := RvR.on x2 hr
  obtain ⟨q1, q3⟩ := shp_shaped p1
  obtain ⟨q2, q4⟩ := shp_shaped p2
  have s0 := ((R.on x1).on x2).ext.h
  have ry := hr'.read x2.s s0
  have rx := hr2.read x2.s s0
  rw [e1] at ry
  have q2' : plainDL ds = true := by unfold plainD at q2; exact q2
  have et : toPy (.lst ds) = .list (toPyL ds) := by unfold toPy; rfl
  have dl := RdD.dp _ _ q2 ry
  rw [et] at q4 dl
  refine ⟨l, y, toPy r2.dat, toPyL ds, j, toPy z, rfl, rfl, dl, RdD.dp _ _ q1 rx, q4, q3, by rw [toPyL_get, h1]; rfl, by rw [← eqD_py _ _ (plain_get q2' h1) q1]; exact h2, fun m z' hm hz => ?_, hq (.int _) H2 G2 (.v (.int _)) (x1.trans x2) (by show RdD X.K G2 (.int _) _; unfold RdD; rfl) k2⟩
  rw [toPyL_get] at hz
  obtain ⟨w, hw, rfl⟩ := Option.map_eq_some_iff.mp hz
  rw [← eqD_py _ _ (plain_get q2' hw) q1]
  exact h3 m w hm hw
end
end DL
/-! own dicts with tuples of ints (and of such tuples) as keys: {}, d[k] = v, k in d, d.get(k, x), len(d), sorted(d) -/
namespace DL
open PySem PySem.Spec PyProof.Rows L2
variable {K : PySem.W.Frag}
mutual
theorem hash_same : ∀ (n : Nat) (d : Dat), kOk n d = true → ∀ w w' : World, NestedKey.hash w (nkD d) = NestedKey.hash w' (nkD d)
  | n, .int i, _, w, w' => by unfold nkD NestedKey.hash; rfl
  | n + 1, .tup ds, h, w, w' => by
    unfold kOk at h
    unfold nkD NestedKey.hash
    rw [hashes_same n ds h w w']
  | 0, .tup ds, h, _, _ => by unfold kOk at h; exact nomatch h
  | n, .non, h, _, _ => by unfold kOk at h; exact nomatch h
  | n, .bl _, h, _, _ => by unfold kOk at h; exact nomatch h
  | n, .str _, h, _, _ => by unfold kOk at h; exact nomatch h
  | n, .lst _, h, _, _ => by unfold kOk at h; exact nomatch h
  | n, .dic _, h, _, _ => by unfold kOk at h; exact nomatch h
theorem hashes_same : ∀ (n : Nat) (ds : List Dat), kOkL n ds = true → ∀ w w' : World, NestedKey.hashes w (nkL ds) = NestedKey.hashes w' (nkL ds)
  | n, [], _, w, w' => by unfold nkL NestedKey.hashes; rfl
  | n, d :: ds, h, w, w' => by
    unfold kOkL at h
    rw [Bool.and_eq_true] at h
    unfold nkL NestedKey.hashes
    rw [hash_same n d h.1 w w', hashes_same n ds h.2 w w']
end
section
variable {X : Cx} {pins : List (Addr × Obj)} {σ : L2.St} {H : Hp} {s : Shared}
mutual
theorem key_is (I : Inv X pins σ H s) : ∀ (n : Nat) (d : Dat) (v : V) (u : Value), kOk n d = true → RdD X.K H d v → RelV v u → NestedIs s.heap (nkD d) u ∧ (nkD d).depth ≤ n
  | n, .int i, v, u, _, r, q => by
    unfold RdD at r
    subst r
    obtain ⟨t, rfl⟩ := q
    unfold nkD
    exact ⟨.int i t, Nat.zero_le _⟩
  | n + 1, .tup ds, v, u, h, r, q => by
    unfold kOk at h
    unfold RdD at r
    obtain ⟨a, vs, rfl, ha, rs⟩ := r
    obtain rfl : u = .ref a := q
    obtain ⟨_, its, rv, o, h1, h2, m, h3⟩ := (show ObjOk X.prog X.w H s.heap a (.tup vs) from I.hok a _ ha)
    obtain ⟨k1, k2⟩ := keys_are I n ds vs its h rs rv
    unfold nkD
    refine ⟨.tup h1 h2 h3 (by simpa using k1), ?_⟩
    unfold NestedKey.depth
    omega
  | 0, .tup ds, _, _, h, _, _ => by unfold kOk at h; exact nomatch h
  | n, .non, _, _, h, _, _ => by unfold kOk at h; exact nomatch h
  | n, .bl _, _, _, h, _, _ => by unfold kOk at h; exact nomatch h
  | n, .str _, _, _, h, _, _ => by unfold kOk at h; exact nomatch h
  | n, .lst _, _, _, h, _, _ => by unfold kOk at h; exact nomatch h
  | n, .dic _, _, _, h, _, _ => by unfold kOk at h; exact nomatch h
theorem keys_are (I : Inv X pins σ H s) : ∀ (n : Nat) (ds : List Dat) (vs : List V) (us : List Value), kOkL n ds = true → RdL X.K H ds vs → Vals vs us → NestedAll s.heap (nkL ds) us ∧ NestedKey.depthAll (nkL ds) ≤ n
  | n, [], vs, us, _, r, q => by
    unfold RdL at r
    subst r
    cases q
    unfold nkL
    exact ⟨.nil, Nat.zero_le _⟩
  | n, d :: ds, vs, us, h, r, q => by
    unfold kOkL at h
    rw [Bool.and_eq_true] at h
    unfold RdL at r
    obtain ⟨v, w, rfl, r1, r2⟩ := r
    cases q with
    | cons q1 q2 =>
      obtain ⟨a1, a2⟩ := key_is I n d v _ h.1 r1 q1
      obtain ⟨b1, b2⟩ := keys_are I n ds w _ h.2 r2 q2
      unfold nkL
      refine ⟨.cons a1 b1, ?_⟩
      unfold NestedKey.depthAll
      exact Nat.max_le.mpr ⟨a2, b2⟩
end
/-- the dict, on the heap -/
theorem dc_heap {G : Hp} {a : Addr} {kvs : List (Dat × V)} (I : Inv X pins σ H s) (g : Same G H) (r : DcR X.K G H a kvs) :
    ∃ xs, Paired (DcK X.K G) kvs xs ∧ s.heap.DictOfH (nestedKind X.prog X.w) a xs ∧ xs.length ≤ sizeLine ∧ (a == sysModules) = false := by
  obtain ⟨xs, es, ⟨ob, e1, ra⟩, e2, e3, e4, e5, e6⟩ := r
  obtain ⟨o, ep, ho, hx, hd⟩ : ∃ o ep, s.heap.get? a = some o ∧ o.ExactDict ∧ o.data = .dict es ep := by
    rcases ra with rfl | ⟨o, ep, rfl, hx, hd⟩
    · exact (show ObjOk X.prog X.w H s.heap a (rawO a es) from I.hok a _ e1).1
    · exact ⟨o, ep, (show ObjOk X.prog X.w H s.heap a (fixO a o) from I.hok a _ e1).1, hx, hd⟩
  refine ⟨xs, e3, ⟨o, es, ep, ho, hx, hd, e2 X.w, fun x hx => ?_, e4⟩, e5, e6⟩
  have all : ∀ {l : List (Dat × V)} {m : List (NestedKey × Addr × Value)}, Paired (DcK X.K G) l m → ∀ x ∈ m, (nestedKind X.prog X.w).is s.heap x.1 x.2.1 := by
    intro l m q
    induction q with
    | nil => intro x hx; exact nomatch hx
    | @cons p q ps qs hq t ih =>
      intro x hx
      rcases List.mem_cons.mp hx with e | hx
      · subst e
        obtain ⟨q1, q2, q3, q4⟩ := hq
        obtain ⟨k1, k2⟩ := key_is I 6 p.1 _ (.ref x.2.1) q2 (RdD.mono g _ _ q3) rfl
        rw [q1] at k1 k2
        exact ⟨k1, by omega⟩
      · exact ih x hx
  exact all e3 x hx
theorem rawO_new {a : Addr} {o : Obj} {es : Array DictEntry} {ep : Nat} {P : Program} {w : World} {H : Hp} {h : Heap} (ho : h.get? a = some o) (hx : o.ExactDict) (hd : o.data = .dict es ep) : ObjOk P w H h a (rawO a es) :=
  ⟨⟨o, ep, ho, hx, hd⟩, ⟨o, ho⟩, fun h1 h2 ⟨o, ep, ho, hx, hd⟩ k => ⟨o, ep, k o ho, hx, hd⟩⟩
end
/-! ### what is in it -/
def hasD (kvs : List (Dat × V)) (k : Dat) : Bool := kvs.any fun p => decide (nkD p.1 = nkD k)
def valD (kvs : List (Dat × V)) (k : Dat) : Option V := (kvs.find? fun p => decide (nkD p.1 = nkD k)).map (·.2)
def putD (kvs : List (Dat × V)) (k : Dat) (v : V) : List (Dat × V) := if hasD kvs k = true then kvs.map (fun p => if nkD p.1 = nkD k then (p.1, v) else p) else kvs ++ [(k, v)]
section
variable {G : Hp} {kvs : List (Dat × V)} {xs : List (NestedKey × Addr × Value)}
theorem dc_val (r : Paired (DcK K G) kvs xs) (k : Dat) : RelO (valD kvs k) ((atKey xs (nkD k)).map (·.2)) := by
  induction r with
  | nil => exact True.intro
  | @cons p q ps qs h t ih =>
    obtain ⟨h1, _, _, h4⟩ := h
    by_cases e : nkD p.1 = nkD k
    · have e' : q.1 = nkD k := h1.symm.trans e
      have b : atKey (q :: qs) (nkD k) = some q.2 := by simp [atKey, List.find?_cons, e']
      have c : valD (p :: ps) k = some p.2 := by simp [valD, List.find?_cons, e]
      rw [c, b]; exact h4
    · have e' : ¬ q.1 = nkD k := fun z => e (h1.trans z)
      have b : atKey (q :: qs) (nkD k) = atKey qs (nkD k) := by simp [atKey, List.find?_cons, e']
      have c : valD (p :: ps) k = valD ps k := by simp [valD, List.find?_cons, e]
      rw [c, b]; exact ih
theorem dc_has (r : Paired (DcK K G) kvs xs) (k : Dat) : (atKey xs (nkD k)).isSome = hasD kvs k := by
  induction r with
  | nil => rfl
  | @cons p q ps qs h t ih =>
    obtain ⟨h1, _, _, h4⟩ := h
    by_cases e : nkD p.1 = nkD k
    · have e' : q.1 = nkD k := h1.symm.trans e
      have b : atKey (q :: qs) (nkD k) = some q.2 := by simp [atKey, List.find?_cons, e']
      have c : hasD (p :: ps) k = true := by simp [hasD, e]
      rw [c, b]; rfl
    · have e' : ¬ q.1 = nkD k := fun z => e (h1.trans z)
      have b : atKey (q :: qs) (nkD k) = atKey qs (nkD k) := by simp [atKey, List.find?_cons, e']
      have c : hasD (p :: ps) k = hasD ps k := by simp [hasD, e]
      rw [c, b]; exact ih
theorem dc_repl (r : Paired (DcK K G) kvs xs) (k : Dat) {v : V} {u : Value} (rv : RelV v u) : Paired (DcK K G) (kvs.map fun p => if nkD p.1 = nkD k then (p.1, v) else p) (xs.map (putAt (nkD k) u)) := by
  induction r with
  | nil => exact .nil
  | @cons p q ps qs h t ih =>
    rw [List.map_cons, List.map_cons]
    refine .cons ?_ ih
    obtain ⟨h1, h2, h3, h4⟩ := h
    unfold putAt
    by_cases e : nkD p.1 = nkD k
    · rw [if_pos e, if_pos (h1.symm.trans e)]; exact ⟨h1, h2, h3, rv⟩
    · rw [if_neg e, if_neg (fun z => e (h1.trans z))]; exact ⟨h1, h2, h3, h4⟩
theorem dc_put (r : Paired (DcK K G) kvs xs) {k : Dat} {v : V} {u : Value} {b : Addr} (hk : kOk 6 k = true) (rk : RdD K G k (.ref b)) (rv : RelV v u) : Paired (DcK K G) (putD kvs k v) (storedH xs (nkD k) b u) := by
  unfold putD storedH
  rw [dc_has r k]
  by_cases q : hasD kvs k = true
  · rw [if_pos q, if_pos q]; exact dc_repl r k rv
  · rw [if_neg q, if_neg q]; exact Paired.snoc r ⟨rfl, hk, rk, rv⟩
end
/-- a tuple that may be a key -/
def keyD : Rv → Option Dat
  | .v (.tup ds) => if kOk 6 (.tup ds) = true then some (.tup ds) else none
  | _ => none
theorem keyD_of {r : Rv} {k : Dat} (h : keyD r = some k) : r = .v k ∧ kOk 6 k = true := by
  unfold keyD at h
  split at h
  · rename_i ds
    split at h
    · rename_i e
      cases h
      exact ⟨rfl, e⟩
    · exact nomatch h
  · exact nomatch h
theorem keyD_ref {H0 G Hs H : Hp} {r : Rv} {v : V} {k : Dat} (h : keyD r = some k) (hr : RvR K H0 G Hs H r v) : ∃ b, v = .ref b ∧ RdD K G k (.ref b) ∧ kOk 6 k = true := by
  unfold keyD at h
  split at h
  · rename_i ds
    split at h
    · rename_i e
      cases h
      have hr : RdD K G (.tup ds) v := hr
      have hr' := hr
      unfold RdD at hr
      obtain ⟨b, vs, rfl, _⟩ := hr
      exact ⟨b, rfl, hr', e⟩
    · exact nomatch h
  · exact nomatch h
def valR : Rv → Option V
  | .v (.int i) => some (.int i)
  | .v (.bl b) => some (.bl b)
  | _ => none
theorem valR_of {H0 G Hs H : Hp} {r : Rv} {v u : V} (h : valR r = some u) (hr : RvR K H0 G Hs H r v) : v = u := by
  unfold valR at h
  split at h
  · cases h
    have hr : RdD K G (.int _) v := hr
    unfold RdD at hr; exact hr
  · cases h
    have hr : RdD K G (.bl _) v := hr
    unfold RdD at hr; exact hr
  · exact nomatch h
/-! ### the readings -/
def DcKey (K : PySem.W.Frag) (G H : Hp) (a : Addr) (kvs : List (Dat × V)) (y : V) (k : Dat) : Prop := ∃ b, y = .ref b ∧ Same G H ∧ DcR K G H a kvs ∧ kOk 6 k = true ∧ RdD K G k (.ref b)
def tDcIn (K : PySem.W.Frag) (neg : Bool) (ty td : TE) : TE := fun σ H Q => ty σ H fun y H1 => td σ H1 fun x H2 => ∃ a G kvs k, x = .ref a ∧ DcKey K G H2 a kvs y k ∧ Q (.bl (if neg = true then !hasD kvs k else hasD kvs k)) H2
def sDcPutT (K : PySem.W.Frag) (td ty tv : TE) : TS := fun D σ H => tv σ H fun v H1 => td σ H1 fun x H2 => ty σ H2 fun y H3 => ∃ a G kvs k, x = .ref a ∧ DcKey K G H3 a kvs y k ∧ kvs.length < sizeLine ∧
  ∀ H4, H4 = upd H3 a (H4 a |>.getD (.tup [])) → DcR K G H4 a (putD kvs k v) → (∃ es, H4 = upd H3 a (rawO a es)) → D.nx σ H4
section
variable {X : Cx} {o i value : Expr} {pos pos' : Pos} {td ty tv : TE}
theorem room_nk {A : Around} (hu : A.units + 64 < cLine) {P : Program} {w : World} : (nestedKind P w).room A.in1 := by
  show A.units + 1 + 8 < cLine
  omega
theorem pc_dcin (hu : X.A.units + 64 < cLine) (hi : PE X i ty) (ho : PE X o td) : PC X .In i o (tDcIn X.K false ty td) := by
  refine ⟨fun pins s σ H Q I h => ?_⟩
  refine thn (hi.run pins s σ H _ I h) fun iv s1 ⟨y, H1, I1, ry, q1⟩ => thn (ho.run pins s1 σ H1 _ I1 q1) fun u s2 ⟨x, H2, I2, rx, a, G, kvs, k, ex, ⟨b, ey, g, r, hk, rk⟩, q2⟩ => ?_
  subst ex ey
  obtain rfl : u = Value.ref a := rx
  obtain rfl : iv = Value.ref b := ry
  obtain ⟨xs, pr, dd, _, hd⟩ := dc_heap I2 g r
  obtain ⟨k1, k2⟩ := key_is I2 6 k _ (.ref b) hk (RdD.mono g _ _ rk) rfl
  refine wpAny_in_heap (knd := nestedKind X.prog X.w) (room_nk hu) ⟨k1, by omega⟩ hd dd ?_
  rw [dc_has pr k]
  exact ⟨.bl (hasD kvs k), H2, I2.tok _, rfl, q2⟩
theorem pc_dcnotin (hu : X.A.units + 64 < cLine) (hi : PE X i ty) (ho : PE X o td) : PC X .NotIn i o (tDcIn X.K true ty td) := by
  refine ⟨fun pins s σ H Q I h => ?_⟩
  refine thn (hi.run pins s σ H _ I h) fun iv s1 ⟨y, H1, I1, ry, q1⟩ => thn (ho.run pins s1 σ H1 _ I1 q1) fun u s2 ⟨x, H2, I2, rx, a, G, kvs, k, ex, ⟨b, ey, g, r, hk, rk⟩, q2⟩ => ?_
  subst ex ey
  obtain rfl : u = Value.ref a := rx
  obtain rfl : iv = Value.ref b := ry
  obtain ⟨xs, pr, dd, _, hd⟩ := dc_heap I2 g r
  obtain ⟨k1, k2⟩ := key_is I2 6 k _ (.ref b) hk (RdD.mono g _ _ rk) rfl
  refine wpAny_notIn_heap (knd := nestedKind X.prog X.w) (room_nk hu) ⟨k1, by omega⟩ hd dd ?_
  rw [dc_has pr k]
  exact ⟨.bl (!hasD kvs k), H2, I2.tok _, rfl, q2⟩
theorem putD_len (kvs : List (Dat × V)) (k : Dat) (v : V) : (putD kvs k v).length ≤ kvs.length + 1 := by
  unfold putD
  split
  · rw [List.length_map]; omega
  · rw [List.length_append]; exact Nat.le_refl _
theorem ps_dcput (hu : X.A.units + 64 < cLine) (ho : PE X o td) (hi : PE X i ty) (hv : PE X value tv) (hs : swapsWith value (some (.Subscript o i pos')) pos.line X.env = pure false) :
    PS X (.Assign [.Subscript o i pos'] value pos) (sDcPutT X.K td ty tv) := by
  refine ⟨fun pins s σ H D I h => ?_⟩
  refine wpAny_Assign_Subscript (thn (hv.run pins s σ H _ I h) fun r s1 ⟨v, H1, I1, rv, q1⟩ => thn (ho.run pins s1 σ H1 _ I1 q1) fun u s2 ⟨x, H2, I2, rx, q2⟩ => thn (hi.run pins s2 σ H2 _ I2 q2) fun iv s3 ⟨y, H3, I3, ry, a, G, kvs, k, ex, ⟨b, ey, g, dr, hk, rk⟩, l, q3⟩ => ?_) hs
  subst ex ey
  obtain rfl : u = Value.ref a := rx
  obtain rfl : iv = Value.ref b := ry
  obtain ⟨xs, pr, dd, hz, hd⟩ := dc_heap I3 g dr
  obtain ⟨es, ea⟩ := dr.at
  obtain ⟨k1, k2⟩ := key_is I3 6 k _ (.ref b) hk (RdD.mono g _ _ rk) rfl
  refine wpAny_setItem_heap (knd := nestedKind X.prog X.w) (hsz := hz) (room_nk hu) ⟨k1, by omega⟩ dd fun h' dd' hsb => ?_
  obtain ⟨q, es', ep, hq, h2, h3, h4, _, h5⟩ := dd'
  have pr' := dc_put pr (v := v) hk rk rv
  have lx : (storedH xs (nkD k) b r).length ≤ sizeLine := by
    rw [← Paired.length pr']
    have := putD_len kvs k v
    omega
  have I4 := d_write (t' := s3.toks + (nestedKind X.prog X.w).draws (nkD k)) (ob := rawO a es') I3 (by rw [ea]; exact True.intro) hsb ⟨q, hq⟩ (rawO_new hq h2 h3)
  refine ⟨σ, upd H3 a (rawO a es'), I4, q3 _ ?_ ⟨_, es', ⟨_, upd_same, .inl rfl⟩, fun w => ?_, pr', h5, lx, hd⟩ ⟨es', rfl⟩⟩
  · rw [upd_same]; rfl
  · rw [h4]
    refine List.map_congr_left fun x hx => ?_
    have all : ∀ {l : List (Dat × V)} {m : List (NestedKey × Addr × Value)}, Paired (DcK X.K G) l m → ∀ x ∈ m, NestedKey.hash X.w x.1 = NestedKey.hash w x.1 := by
      intro l m q
      induction q with
      | nil => intro x hx; exact nomatch hx
      | @cons p q ps qs hq t ih =>
        intro x hx
        rcases List.mem_cons.mp hx with e | hx
        · subst e
          rw [← hq.1]
          exact hash_same 6 p.1 hq.2.1 _ _
        · exact ih x hx
    show (⟨NestedKey.hash X.w x.1, .ref x.2.1, x.2.2⟩ : DictEntry) = _
    rw [all pr' x hx]
end
end DL
/-! own dicts: what is said of them -/
namespace DL
open PySem PySem.Spec PyProof.Rows L2
variable {K : PySem.W.Frag}
/-- no other slot holds the dict at a -/
def NoDc (a : Addr) (i : Nat) (ρ : List Sl) : Prop := ∀ (j : Nat) (kvs : List (Dat × V)), j ≠ i → ρ[j]? ≠ some (Sl.dc a kvs)
theorem Rel.dc {H0 G0 G H : Hp} {ρ : List Sl} {σ : L2.St} {i : Nat} {a : Addr} {kvs : List (Dat × V)} (R : Rel K H0 G0 G ρ σ H) (e : ρ[i]? = some (.dc a kvs)) : σ[i]? = some (some (.ref a)) ∧ DcR K G H a kvs ∧ G a = none ∧ H0 a = none := R.sl _ _ e
theorem Rel.writeD {H0 G0 G H : Hp} {ρ : List Sl} {σ : L2.St} {i : Nat} {a : Addr} {kvs kvs' : List (Dat × V)} {ob : HO} (R : Rel K H0 G0 G ρ σ H) (e : ρ[i]? = some (.dc a kvs)) (no : NoDc a i ρ) (d : DcR K G (upd H a (ob)) a kvs') :
    Rel K H0 G0 G (ρ.set i (.dc a kvs')) σ (upd H a (ob)) := by
  obtain ⟨e1, e2, e3, e4⟩ := R.dc e
  obtain ⟨es0, e0⟩ := e2.at
  have hi : i < ρ.length := by
    by_cases hi : i < ρ.length
    · exact hi
    · rw [List.getElem?_eq_none (by omega)] at e; exact nomatch e
  have same : ∀ {G' : Hp}, Same G' H → G' a = none → Same G' (upd H a (ob)) := fun s n b o h => by
    rw [upd_ne (fun z => by rw [z, n] at h; exact nomatch h)]
    exact s _ _ h
  refine ⟨⟨same R.ext.h e4, R.ext.g, same R.ext.s e3, R.ext.f⟩, by rw [List.length_set]; exact R.len, fun j t ht => ?_, fun j k as bs m hj hk lj lk => ?_⟩
  · by_cases hij : i = j
    · subst hij
      rw [List.getElem?_set_self hi] at ht
      cases ht
      exact ⟨e1, d, e3, e4⟩
    · rw [List.getElem?_set_ne hij] at ht
      have h := R.sl j t ht
      cases t with
      | un => trivial
      | fz d => exact h
      | ow as =>
        obtain ⟨m, us, f1, f2, f3⟩ := h
        refine ⟨m, us, f1, ?_, f3⟩
        rw [upd_ne (fun z => by rw [z, e0] at f2; exact nomatch f2)]
        exact f2
      | br as => exact h
      | adr a => exact h
      | dc b kvs1 =>
        obtain ⟨f1, f2, f3, f4⟩ := h
        refine ⟨f1, f2.mono (Same.refl G) (fun o ho => ?_), f3, f4⟩
        rw [upd_ne (fun z => no j kvs1 (fun z => hij z.symm) (by rw [← z]; exact ht))]
        exact ho
  · have back : ∀ (b : Nat) (as : List Dat), (ρ.set i (.dc a kvs'))[b]? = some (.ow as) → ρ[b]? = some (.ow as) := fun b as h => by
      by_cases hib : i = b
      · subst hib; rw [List.getElem?_set_self hi] at h; exact nomatch h
      · rw [List.getElem?_set_ne hib] at h; exact h
    exact R.inj j k as bs m (back _ _ hj) (back _ _ hk) lj lk
theorem Rel.newD {H0 G0 G H : Hp} {ρ : List Sl} {σ : L2.St} (R : Rel K H0 G0 G ρ σ H) (i : Nat) {p : Addr} (np : H p = none) (nm : (p == sysModules) = false) :
    Rel K H0 G0 G (ρ.set i (.dc p [])) (σ.set i (some (.ref p))) (upd H p (rawO p #[])) := by
  have x := Ext.newH (o := rawO p #[]) R.ext.s np
  have R1 := R.on x
  refine ⟨R1.ext, by rw [List.length_set, List.length_set]; exact R.len, fun j t ht => ?_, fun j k ds es l hj hk lj lk => ?_⟩
  · by_cases hij : i = j
    · subst hij
      by_cases hi : i < ρ.length
      · rw [List.getElem?_set_self hi] at ht
        cases ht
        refine ⟨?_, ⟨[], #[], ⟨_, upd_same, .inl rfl⟩, fun w => rfl, .nil, List.nodup_nil, Nat.zero_le _, nm⟩, R.ext.s.free np, R.ext.h.free np⟩
        rw [List.getElem?_set_self (by rw [← R.len]; exact hi)]
      · rw [List.getElem?_eq_none (by rw [List.length_set]; omega)] at ht
        exact nomatch ht
    · rw [List.getElem?_set_ne hij] at ht ⊢
      exact R1.sl j t ht
  · have key : ∀ (j : Nat) (ds : List Dat), (ρ.set i (.dc p []))[j]? = some (.ow ds) → i ≠ j := fun j ds h e => by
      subst e
      by_cases hi : i < ρ.length
      · rw [List.getElem?_set_self hi] at h; exact nomatch h
      · rw [List.getElem?_eq_none (by rw [List.length_set]; omega)] at h; exact nomatch h
    have a1 := key j ds hj
    have a2 := key k es hk
    rw [List.getElem?_set_ne a1] at hj lj
    rw [List.getElem?_set_ne a2] at hk lk
    exact R.inj j k ds es l hj hk lj lk
/-- x = {} -/
def sDcNew (i : Nat) : DS := fun κ ρ => ∀ a : Addr, (∀ (j : Nat) (kvs : List (Dat × V)), ρ[j]? ≠ some (Sl.dc a kvs)) → κ.nx (ρ.set i (.dc a []))
/-- k in x, k not in x -/
def dDcIn (neg : Bool) (d : DE) (i : Nat) : DE := fun ρ κ ε => d ρ (fun r => onS (keyD r) fun k => match ρ[i]? with
  | some (.dc _ kvs) => κ (.v (.bl (if neg = true then !hasD kvs k else hasD kvs k)))
  | _ => False) ε
/-- x[k] = v -/
def sDcPut (i : Nat) (dv dk : DE) : DS := fun κ ρ => match ρ[i]? with
  | some (.dc a kvs) => dv ρ (fun r => dk ρ (fun q => onS (valR r) fun u => onS (keyD q) fun k => kvs.length < sizeLine ∧ NoDc a i ρ ∧ κ.nx (ρ.set i (.dc a (putD kvs k u)))) (fun nm => κ.ex nm ρ)) (fun nm => κ.ex nm ρ)
  | _ => False
/-- len(x) -/
def dDcLen (i : Nat) : DE := fun ρ κ _ => match ρ[i]? with
  | some (.dc _ kvs) => κ (.v (.int (kvs.length : Int)))
  | _ => False
def tDcNew : TE := fun _ H Q => ∀ p, H p = none → (p == sysModules) = false → Q (.ref p) (upd H p (rawO p #[]))
theorem pe_dcnew {X : Cx} {pos : Pos} : PE X (.Dict [] [] pos) tDcNew := ⟨fun pins s σ H Q I h =>
  wpAny_Dict_empty ⟨.ref s.heap.objs.size, _, I.laid (a := s.heap.objs.size) (o := rawO s.heap.objs.size #[]) (t' := s.toks) (fun _ _ q => Heap.get?_push_of_some _ q) (Nat.le_refl _) (rawO_new (Heap.get?_push_size _ rfl) ⟨rfl, rfl, rfl⟩ rfl), rfl,
    h _ (I.hok.fresh (Nat.le_refl _)) (beq_eq_false_iff_ne.mpr (Ne.symm (Nat.ne_of_lt I.big)))⟩⟩
section
variable {X : Cx} {W : WX} {e ix tg : Expr} {d dk : DE} {pos : Pos} {x : Str}
theorem ms_dcnew (i : Nat) {p2 p3 : Pos} (hN : X.N.Nodup) (hi : X.N[i]? = some x := by rfl) (hx : Loc X.env.scope x := by first | exact Or.inl rfl | exact Or.inr rfl)
    (hs : swapsWith (.Dict [] [] p3) (some (.Name x p2)) pos.line X.env = pure false := by rfl) (hf : X.fn x = true ∨ X.env.scope.names.lookup x = some .local := by first | exact .inl rfl | exact .inr rfl | assumption) : MS X W (.Assign [.Name x p2] (.Dict [] [] p3) pos) (sDcNew i) := by
  refine ⟨_, ps_set hN hi hx pe_dcnew hs hf, fun H0 G0 G ρ σ H D κ R h E => ?_⟩
  intro p np nm
  refine E.nx _ _ _ G (R.newD i np nm) (h p fun j kvs z => ?_)
  obtain ⟨_, e2, _⟩ := R.dc z
  obtain ⟨es, ea⟩ := e2.at
  rw [np] at ea
  exact nomatch ea
theorem eok_dcin (neg : Bool) {t : TE} {i : Nat} (oa : EOk X.K X.mg W t d) : EOk X.K X.mg W (tDcIn X.K neg t (tVar i)) (dDcIn neg d i) := fun H0 G0 G ρ σ H Q κ ε R h hq hx => by
  refine oa H0 G0 G ρ σ H _ _ ε R h (fun v H1 G1 r x1 hr k1 => ?_) hx
  obtain ⟨k, ek, k2⟩ := onS.of k1
  split at k2
  · rename_i a kvs eo
    have R1 := R.on x1
    obtain ⟨f1, f2, f3, f4⟩ := R1.dc eo
    obtain ⟨b, eb, rk, hk⟩ := keyD_ref ek hr
    refine ⟨.ref a, f1, a, G1, kvs, k, rfl, ⟨b, eb, x1.s, f2, hk, rk⟩, ?_⟩
    exact hq _ _ G1 (.v (.bl _)) x1 (by show RdD _ _ _ _; unfold RdD; rfl) k2
  · exact k2.elim
theorem me_dcin (hu : X.A.units + 64 < cLine) (i : Nat) {p2 : Pos} (h : ME X W e d) (hN : X.N[i]? = some x := by rfl) (hv : Vis X.env.scope x := by first | exact Or.inl rfl | exact Or.inr (Or.inl rfl) | exact Or.inr (Or.inr rfl)) (hd : (x == ("__debug__" : Str)) = false := by decide)
    (hcd : (x == ("__classdict__" : Str)) = false := by decide) (hm : behindInMarks .In (.Name x p2) = false := by rfl) : ME X W (.Compare e [.In] [.Name x p2] pos) (dDcIn false d i) := by
  obtain ⟨t, pa, oa⟩ := h
  exact ⟨_, pe_cmp (pc_dcin hu pa (pe_var hN hv hd hcd)) hm, eok_dcin false oa⟩
theorem mt_dcin (hu : X.A.units + 64 < cLine) (i : Nat) {p2 : Pos} (h : ME X W e d) (hN : X.N[i]? = some x := by rfl) (hv : Vis X.env.scope x := by first | exact Or.inl rfl | exact Or.inr (Or.inl rfl) | exact Or.inr (Or.inr rfl)) (hd : (x == ("__debug__" : Str)) = false := by decide)
    (hcd : (x == ("__classdict__" : Str)) = false := by decide) (hm : behindInMarks .In (.Name x p2) = false := by rfl) : MT X W (.Compare e [.In] [.Name x p2] pos) (tVal (dDcIn false d i)) := by
  obtain ⟨t, pa, oa⟩ := h
  exact ⟨_, pt_cmp (pc_dcin hu pa (pe_var hN hv hd hcd)) hm, tok_val (eok_dcin false oa)⟩
theorem me_dcnotin (hu : X.A.units + 64 < cLine) (i : Nat) {p2 : Pos} (h : ME X W e d) (hN : X.N[i]? = some x := by rfl) (hv : Vis X.env.scope x := by first | exact Or.inl rfl | exact Or.inr (Or.inl rfl) | exact Or.inr (Or.inr rfl)) (hd : (x == ("__debug__" : Str)) = false := by decide)
    (hcd : (x == ("__classdict__" : Str)) = false := by decide) (hm : behindInMarks .NotIn (.Name x p2) = false := by rfl) : ME X W (.Compare e [.NotIn] [.Name x p2] pos) (dDcIn true d i) := by
  obtain ⟨t, pa, oa⟩ := h
  exact ⟨_, pe_cmp (pc_dcnotin hu pa (pe_var hN hv hd hcd)) hm, eok_dcin true oa⟩
theorem mt_dcnotin (hu : X.A.units + 64 < cLine) (i : Nat) {p2 : Pos} (h : ME X W e d) (hN : X.N[i]? = some x := by rfl) (hv : Vis X.env.scope x := by first | exact Or.inl rfl | exact Or.inr (Or.inl rfl) | exact Or.inr (Or.inr rfl)) (hd : (x == ("__debug__" : Str)) = false := by decide)
    (hcd : (x == ("__classdict__" : Str)) = false := by decide) (hm : behindInMarks .NotIn (.Name x p2) = false := by rfl) : MT X W (.Compare e [.NotIn] [.Name x p2] pos) (tVal (dDcIn true d i)) := by
  obtain ⟨t, pa, oa⟩ := h
  exact ⟨_, pt_cmp (pc_dcnotin hu pa (pe_var hN hv hd hcd)) hm, tok_val (eok_dcin true oa)⟩
theorem ms_dcput (i : Nat) (hu : X.A.units + 64 < cLine) {p2 p3 : Pos} (h : ME X W e d) (hix : ME X W ix dk) (hN : X.N[i]? = some x := by rfl) (hv : Vis X.env.scope x := by first | exact Or.inl rfl | exact Or.inr (Or.inl rfl) | exact Or.inr (Or.inr rfl)) (hd : (x == ("__debug__" : Str)) = false := by decide)
    (hcd : (x == ("__classdict__" : Str)) = false := by decide) (hs : swapsWith e (some (.Subscript (.Name x p2) ix p3)) pos.line X.env = pure false := by rfl) : MS X W (.Assign [.Subscript (.Name x p2) ix p3] e pos) (sDcPut i d dk) := by
  obtain ⟨t, pa, oa⟩ := h
  obtain ⟨u, pi, oi⟩ := hix
  refine ⟨_, ps_dcput hu (pe_var hN hv hd hcd) pi pa hs, fun H0 G0 G ρ σ H D κ R h E => ?_⟩
  unfold sDcPut at h
  split at h
  · rename_i a kvs eo
    refine oa H0 G0 G ρ σ H _ _ _ R h (fun v H1 G1 r x1 hr k1 => ?_) (E.xok R)
    have R1 := R.on x1
    obtain ⟨f1, _⟩ := R.dc eo
    refine ⟨.ref a, f1, ?_⟩
    refine oi H0 G0 G1 ρ σ H1 _ _ _ R1 k1 (fun w H2 G2 q x2 hq k2 => ?_) (E.xok R1)
    obtain ⟨u, eu, k3⟩ := onS.of k2
    obtain ⟨k, ek, l, no, k4⟩ := onS.of k3
    have R2 := R1.on x2
    obtain ⟨_, g2, g3, g4⟩ := R2.dc eo
    obtain ⟨b, eb, rk, hk⟩ := keyD_ref ek hq
    have ev := valR_of eu hr
    refine ⟨a, G2, kvs, k, rfl, ⟨b, eb, x2.s, g2, hk, rk⟩, l, fun H4 _ dr ⟨es, e4⟩ => ?_⟩
    subst e4
    rw [ev] at dr
    exact E.nx _ _ _ G2 (R2.writeD eo no dr) k4
  · exact h.elim
/-- the dict at a, as an argument -/
def rDcLen (K : PySem.W.Frag) : List V → Hp → VK → Prop := fun xs H Q => ∃ a G kvs, xs = [.ref a] ∧ Same G H ∧ DcR K G H a kvs ∧ Q (.int ((kvs.length : Nat) : Int)) H
theorem cr_dclen {X : Cx} : CallR X (.builtin "len") (rDcLen X.K) := by
  intro pins s σ H xs us Q I r h
  obtain ⟨a, G, kvs, rfl, g, dr, q⟩ := h
  obtain ⟨u, rfl, rx⟩ := vals1 r
  obtain rfl : u = .ref a := rx
  obtain ⟨ys, pr, dd, hz, hd⟩ := dc_heap I g dr
  have hl : kvs.length = ys.length := Paired.length pr
  refine PySem.call_len_dictH hd dd (by rw [sizeLine_eq] at hz; omega) ?_
  rw [← hl]
  exact ⟨.int ((kvs.length : Nat) : Int), H, I.tok _, ⟨_, rfl⟩, q⟩
theorem me_dclen (i : Nat) {p p2 : Pos} (hm : X.mg "len" = none) (hN : X.N[i]? = some x := by rfl) (hv : Vis X.env.scope x := by first | exact Or.inl rfl | exact Or.inr (Or.inl rfl) | exact Or.inr (Or.inr rfl)) (hd : (x == ("__debug__" : Str)) = false := by decide)
    (hcd : (x == ("__classdict__" : Str)) = false := by decide) (hg : Gl X "len" := by rfl)
    (he : starEach [.Name x p2] X.env = (false, eval (.Name x p2) X.env) :: starEach [] X.env := by rfl) (hpl : (backTo pos (starEach [] X.env)).any (·.1) = false := by rfl) : ME X W (.Call (.Name "len" p) [.Name x p2] [] pos) (dDcLen i) := by
  refine ⟨_, pe_callB cr_dclen hg hm (by decide +kernel) (pa_cons (pe_var hN hv hd hcd) pa_nil he) (by decide) (by decide) he hpl, fun H0 G0 G ρ σ H Q κ ε R h hq hx => ?_⟩
  unfold dDcLen at h
  split at h
  · rename_i a kvs eo
    obtain ⟨f1, f2, f3, f4⟩ := R.dc eo
    refine ⟨.ref a, f1, a, G, kvs, rfl, R.ext.s, f2, ?_⟩
    exact hq _ _ G (.v (.int _)) (Ext.refl R.ext.s) (by show RdD _ _ _ _; unfold RdD; rfl) h
  · exact h.elim
end
end DL
/-! sorted(d) of an own dict -/
namespace DL
open PySem PySem.Spec PyProof.Rows L2
variable {K : PySem.W.Frag}
section
variable {X : Cx} {pins : List (Addr × Obj)} {σ : L2.St} {H : Hp} {s : Shared}
mutual
theorem key_reads (I : Inv X pins σ H s) : ∀ (n : Nat) (d : Dat) (v : V) (u : Value), kOk n d = true → RdD X.K H d v → RelV v u → Reads s.heap u (toPy d) []
  | n, .int i, v, u, _, r, q => by
    unfold RdD at r
    subst r
    obtain ⟨t, rfl⟩ := q
    unfold toPy
    exact Reads.int i t
  | n + 1, .tup ds, v, u, h, r, q => by
    unfold kOk at h
    unfold RdD at r
    obtain ⟨a, vs, rfl, ha, rs⟩ := r
    obtain rfl : u = .ref a := q
    obtain ⟨_, its, rv, o, h1, h2, m, h3⟩ := (show ObjOk X.prog X.w H s.heap a (.tup vs) from I.hok a _ ha)
    have k1 := keys_read I n ds vs its h rs rv
    unfold toPy
    exact Reads.tuple h1 h2 h3 (by simpa using k1)
  | 0, .tup ds, _, _, h, _, _ => by unfold kOk at h; exact nomatch h
  | n, .non, _, _, h, _, _ => by unfold kOk at h; exact nomatch h
  | n, .bl _, _, _, h, _, _ => by unfold kOk at h; exact nomatch h
  | n, .str _, _, _, h, _, _ => by unfold kOk at h; exact nomatch h
  | n, .lst _, _, _, h, _, _ => by unfold kOk at h; exact nomatch h
  | n, .dic _, _, _, h, _, _ => by unfold kOk at h; exact nomatch h
theorem keys_read (I : Inv X pins σ H s) : ∀ (n : Nat) (ds : List Dat) (vs : List V) (us : List Value), kOkL n ds = true → RdL X.K H ds vs → Vals vs us → ReadsAll s.heap us (toPyL ds) []
  | n, [], vs, us, _, r, q => by
    unfold RdL at r
    subst r
    cases q
    unfold toPyL
    exact ReadsAll.nil
  | n, d :: ds, vs, us, h, r, q => by
    unfold kOkL at h
    rw [Bool.and_eq_true] at h
    unfold RdL at r
    obtain ⟨v, w, rfl, r1, r2⟩ := r
    cases q with
    | cons q1 q2 =>
      have a1 := key_reads I n d v _ h.1 r1 q1
      have b1 := keys_read I n ds w _ h.2 r2 q2
      unfold toPyL
      exact ReadsAll.cons a1 b1
end
end
theorem dc_zip {G : Hp} {kvs : List (Dat × V)} {xs : List (NestedKey × Addr × Value)} (r : Paired (DcK K G) kvs xs) : ∃ zs : List (Dat × Addr), zs.map (·.1) = kvs.map (·.1) ∧ zs.map (·.2) = xs.map (·.2.1) ∧ ∀ z ∈ zs, kOk 6 z.1 = true ∧ RdD K G z.1 (.ref z.2) := by
  induction r with
  | nil => exact ⟨[], rfl, rfl, fun z hz => nomatch hz⟩
  | @cons p q ps qs h t ih =>
    obtain ⟨zs, e1, e2, e3⟩ := ih
    obtain ⟨h1, h2, h3, h4⟩ := h
    refine ⟨(p.1, q.2.1) :: zs, by rw [List.map_cons, List.map_cons, e1], by rw [List.map_cons, List.map_cons, e2], fun z hz => ?_⟩
    rcases List.mem_cons.mp hz with rfl | hz
    · exact ⟨h2, h3⟩
    · exact e3 z hz
def rDcSort (K : PySem.W.Frag) : List V → Hp → VK → Prop := fun vs H Q => ∃ a G kvs, vs = [.ref a] ∧ Same G H ∧ DcR K G H a kvs ∧ SrtOk (kvs.map (·.1)) ∧ ∀ (ys : List V) (p : Addr), RdL K G (sortD (kvs.map (·.1))) ys → H p = none → Q (.ref p) (upd H p (.lst ys))
theorem cr_dcsort {X : Cx} (hc : X.calm = true) (hu : X.A.units + 66 < cLine) : CallR X (.builtin "sorted") (rDcSort X.K) := by
  intro pins s σ H vs us Q I r h
  obtain ⟨a, G, kvs, rfl, g, dr, ok, q⟩ := h
  obtain ⟨u, rfl, rx⟩ := vals1 r
  obtain rfl : u = .ref a := rx
  obtain ⟨xs, pr, dd, hz, hd⟩ := dc_heap I g dr
  obtain ⟨o, es, ep, ho, hx, hdat, he, his, hn⟩ := dd
  obtain ⟨zs, z1, z2, z3⟩ := dc_zip pr
  have l1 : es.size = xs.length := size_of_entries he
  have lz : zs.length = xs.length := by have := congrArg List.length z2; rwa [List.length_map, List.length_map] at this
  have hh : X.A.handled = none := I.ok.hd hc
  refine Calls.call_function_entry kind_sorted plain_sorted entry_sorted (args_sorted1 _) ?_
  unfold Builtin.«sorted»
  refine wpAny_bind (m := checkCount "sorted" 1 1 _) (wpAny_pure ?_)
  refine wpAny_bind (PySem.W.kdu_collect (A := X.A.in1) (kdl_raw hd hx hdat) hh ho (by omega) fun h' tk acc kp it => ?_)
  have ea : acc.toList = zs.map fun z => Value.ref z.2 := by
    have e0 : (zs.map fun z => Value.ref z.2) = (zs.map (·.2)).map Value.ref := by rw [List.map_map]; rfl
    rw [e0, z2]
    have hl : acc.toList.length = xs.length := by rw [Array.length_toList, it.1]; exact l1
    apply List.ext_getElem?
    intro j
    rw [List.getElem?_map, List.getElem?_map]
    cases hj : acc.toList[j]? with
    | none =>
      have h1 := List.getElem?_eq_none_iff.mp hj
      rw [List.getElem?_eq_none (by omega)]
      rfl
    | some v =>
      obtain ⟨en, hen, hv⟩ := it.2 j v (by rw [← Array.getElem?_toList]; exact hj)
      have qe := entry_at he j
      rw [hen] at qe
      cases hb : xs[j]? with
      | none =>
        rw [hb] at qe
        exact nomatch (show some en = none from qe)
      | some b =>
        rw [hb] at qe
        have e2 : en = entryOfKey (nestedKind X.prog X.w) b := Option.some.inj qe
        rw [hv, e2]
        rfl
  rw [ea]
  refine wpAny_bind (wpAny_newList ?_ (by rw [List.length_map]; omega))
  have hoL : (h'.push (seqObj "list" (zs.map fun z => Value.ref z.2).toArray 0)).get? h'.objs.size = some (seqObj "list" (zs.map fun z => Value.ref z.2).toArray 0) := Heap.get?_push_size _ rfl
  have rd : ∀ z ∈ zs, Reads (h'.push (seqObj "list" (zs.map fun z => Value.ref z.2).toArray 0)) (.ref z.2) (toPy z.1) [] := fun z hz => by
    obtain ⟨k1, k2⟩ := z3 z hz
    exact PyProof.Rows.Reads.keeps (fun b u e => Heap.get?_push_of_some _ (kp b u e)) (key_reads I 6 z.1 _ (.ref z.2) k1 (RdD.mono g _ _ k2) rfl)
  have each : ∀ M : List (Dat × Addr), (∀ z ∈ M, z ∈ zs) → PySem.W.EachIs (fun (v : Value) (z : Dat × Addr) => v = .ref z.2) (M.map fun z => Value.ref z.2) M ∧
      PySem.W.EachIs (fun (v : Value) (z : Dat × Addr) => ∃ as, Reads (h'.push (seqObj "list" (zs.map fun z => Value.ref z.2).toArray 0)) v (toPy z.1) as ∧ h'.objs.size ∉ as) (M.map fun z => Value.ref z.2) M := by
    intro M
    induction M with
    | nil => intro _; exact ⟨.nil, .nil⟩
    | cons z M ih =>
      intro h
      obtain ⟨a, b⟩ := ih fun r hr => h r (List.mem_cons_of_mem _ hr)
      exact ⟨.cons rfl a, .cons ⟨[], rd z (h z List.mem_cons_self), by simp⟩ b⟩
  obtain ⟨ea', eb⟩ := each zs fun z h => h
  have ef : zs.map (fun z => toPy z.1) = toPyL (kvs.map (·.1)) := by
    rw [toPyL_map, ← z1, List.map_map]; rfl
  refine wpAny_bind (wpAny_holding (PySem.W.list_sort_data (s := { s with heap := h'.push (seqObj "list" (zs.map fun z => Value.ref z.2).toArray 0), toks := tk }) (enc := fun z => toPy z.1) hoL ea' eb (by rw [ef]; exact ok.al) (by rw [ef]; exact ok.so) (by omega) (fun z hz => ?_) fun out _ h2 => ?_))
  · have hm : z.1 ∈ kvs.map (·.1) := by rw [← z1]; exact List.mem_map.mpr ⟨z, hz, rfl⟩
    have := (ok.ok z.1 hm).2
    show X.A.units + 1 + 1 + (toPy z.1).depth < cLine
    omega
  · obtain ⟨c, hc'⟩ := sortedHeap_at (vs := zs.map fun z => Value.ref z.2) (out := out.toArray) hoL
    generalize hS : zs.mergeSort (PySem.W.dataLe false fun z : Dat × Addr => toPy z.1) = S at h2
    have eo : out = S.map fun z => Value.ref z.2 := by
      have key : ∀ {out : List Value} {S : List (Dat × Addr)}, PySem.W.EachIs (fun (v : Value) (z : Dat × Addr) => v = .ref z.2) out S → out = S.map fun z => Value.ref z.2 := by
        intro out S h
        induction h with
        | nil => rfl
        | cons r _ ih => rw [List.map_cons, r, ih]
      exact key h2
    have em : S.map (·.1) = sortD (kvs.map (·.1)) := by
      rw [← hS, ← z1]
      unfold sortD
      exact List.map_mergeSort (l := zs) (r := PySem.W.dataLe false fun z : Dat × Addr => toPy z.1) (s := fun a b => !ltD b a) (f := fun p : Dat × Addr => p.1) (fun a _ b _ => rfl)
    have hp : ∀ p ∈ S, p ∈ zs := fun p hm => by rw [← hS] at hm; exact (List.mem_mergeSort).mp hm
    have lS : S.length = zs.length := by rw [← hS, List.length_mergeSort]
    have np : s.heap.get? h'.objs.size = none := by
      cases q : s.heap.get? h'.objs.size with
      | none => rfl
      | some o => exact absurd (Heap.lt_size (kp _ _ q)) (Nat.lt_irrefl _)
    have hn' : H h'.objs.size = none := I.hok.gone np
    have kf : ∀ b u, s.heap.get? b = some u → (sortedHeap (h'.push (seqObj "list" (zs.map fun z => Value.ref z.2).toArray 0)) h'.objs.size (zs.map fun z => Value.ref z.2) out.toArray).get? b = some u := fun b u e => by
      have q := kp b u e
      have hlt := Heap.lt_size q
      rw [sortedHeap_old (Nat.ne_of_lt hlt) (by rw [size_push']; exact Nat.lt_succ_of_lt hlt)]
      exact Heap.get?_push_of_some _ q
    have hv : Vals (S.map fun z => V.ref z.2) out := by
      rw [eo]
      have key : ∀ S : List (Dat × Addr), Vals (S.map fun z => V.ref z.2) (S.map fun z => Value.ref z.2) := by
        intro S
        induction S with
        | nil => exact .nil
        | cons z S ih => exact .cons rfl ih
      exact key S
    refine wpAny_pure ⟨_, rfl, .ref h'.objs.size, _, I.laidN (t' := tk) (o := .lst (S.map fun z => V.ref z.2)) kf np hn' ⟨by rw [List.length_map]; omega, out, c, hv, hc'⟩, rfl, q _ _ ?_ hn'⟩
    rw [← em]
    have key : ∀ S : List (Dat × Addr), (∀ z ∈ S, z ∈ zs) → RdL X.K G (S.map (·.1)) (S.map fun z => V.ref z.2) := by
      intro S
      induction S with
      | nil => intro _; exact RdL.nil
      | cons z S ih => intro h; exact RdL.cons (z3 z (h z List.mem_cons_self)).2 (ih fun r hr => h r (List.mem_cons_of_mem _ hr))
    exact key S hp
/-- sorted(x) -/
def dDcSort (i : Nat) : DE := fun ρ κ _ => match ρ[i]? with
  | some (.dc _ kvs) => SrtOk (kvs.map (·.1)) ∧ κ (.n (sortD (kvs.map (·.1))))
  | _ => False
section
variable {X : Cx} {W : WX} {pos : Pos} {x : Str}
theorem me_dcsort {k : Nat} (C : Cn X W k) (i : Nat) {p p2 : Pos} (hm : X.mg "sorted" = none) (hN : X.N[i]? = some x := by rfl) (hv : Vis X.env.scope x := by first | exact Or.inl rfl | exact Or.inr (Or.inl rfl) | exact Or.inr (Or.inr rfl)) (hd : (x == ("__debug__" : Str)) = false := by decide)
    (hcd : (x == ("__classdict__" : Str)) = false := by decide) (hg : Gl X "sorted" := by rfl)
    (he : starEach [.Name x p2] X.env = (false, eval (.Name x p2) X.env) :: starEach [] X.env := by rfl) (hpl : (backTo pos (starEach [] X.env)).any (·.1) = false := by rfl) : ME X W (.Call (.Name "sorted" p) [.Name x p2] [] pos) (dDcSort i) := by
  refine ⟨_, pe_callB (cr_dcsort C.hc (Room.u66 C.hr)) hg hm (by decide +kernel) (pa_cons (pe_var hN hv hd hcd) pa_nil he) (by decide) (by decide) he hpl, fun H0 G0 G ρ σ H Q κ ε R h hq hx => ?_⟩
  unfold dDcSort at h
  split at h
  · rename_i a kvs eo
    obtain ⟨f1, f2, f3, f4⟩ := R.dc eo
    refine ⟨.ref a, f1, a, G, kvs, rfl, R.ext.s, f2, h.1, fun ys p hy np => ?_⟩
    exact hq _ _ G (.n (sortD (kvs.map (·.1)))) (Ext.newH R.ext.s np) ⟨p, ys, rfl, upd_same, hy, np, R.ext.s.free np⟩ h.2
  · exact h.elim
end
end DL
/-! isinstance(e, (A, B)), e a caught exception -/
namespace L2
open PySem PySem.Spec PyProof.Rows
def rIsET (K : PySem.W.Frag) (D a : Addr) : List V → Hp → VK → Prop := fun xs H Q => ∃ (T : Addr) (c1 c2 : V) (v1 v2 : Value) (b1 b2 : Bool), xs = [.ref a, .ref T] ∧ H T = some (.tup [c1, c2]) ∧ (∀ u, RelV c1 u → u = v1) ∧ (∀ u, RelV c2 u → u = v2) ∧
  PySem.W.kitOne K (.ref D) v1 = some b1 ∧ PySem.W.kitOne K (.ref D) v2 = some b2 ∧ Q (.bl (b1 || b2)) H
theorem call_isET {X : Cx} {a D : Addr} {oe : Obj} {pn : List (Addr × Obj)} (C : ExcC X.K D) (hz : Zc (.ref D) none oe) (hf : ∃ vs, oe.data = .fields vs) : CallR (X.suite a ((a, oe) :: pn)) (.builtin "isinstance") (rIsET X.K D a) := by
  intro pins s σ H xs us Q I r h
  obtain ⟨T, c1, c2, v1, v2, b1, b2, rfl, hT, h1, h2, k1, k2, q⟩ := h
  obtain ⟨_, its, rv, ⟨tc, td, tda, tsl⟩, g1, g2, n, g3⟩ := (show ObjOk _ _ H s.heap T (.tup [c1, c2]) from I.hok T _ hT)
  obtain rfl : its = [v1, v2] := by
    cases rv with
    | cons r1 rr =>
      cases rr with
      | cons r2 rr =>
        cases rr
        rw [h1 _ r1, h2 _ r2]
  cases r with
  | cons rx rr =>
    cases rr with
    | cons rt rr =>
      cases rr
      cases rx
      cases rt
      dsimp only at g2 g3
      subst g2 g3
      have hget := (I.pin (a, oe) (List.mem_append_left _ List.mem_cons_self)).1
      have J : PySem.W.InstAt s.heap a oe D none := by
        cases oe
        cases hf
        cases hz
        simp only at *
        subst_vars
        exact ⟨hget, rfl, rfl, trivial⟩
      have kk : PySem.W.kitAny X.K (.ref D) [v1, v2] = some (b1 || b2) := by
        unfold PySem.W.kitAny
        rw [k1]
        cases b1 with
        | true => rfl
        | false =>
          unfold PySem.W.kitAny
          rw [k2]
          cases b2 <;> rfl
      exact PySem.W.kia_tup (PySem.W.handS_kitx_exc C.hg C.hk C.hs C.hd C.ha C.hn C.ht C.hm) I.kIn J g1 kk (fun z => nomatch z) fun tk => ⟨.bl (b1 || b2), H, I.kept (t' := tk) fun _ _ z => z, rfl, q⟩
end L2
namespace DL
open PySem PySem.Spec PyProof.Rows L2
variable {K : PySem.W.Frag}
/-- isinstance(n, (y1, y2)), n the caught one -/
def dIsxT (is : List (Str × Str × Bool)) (a : Addr) (nm : Str) (i : Nat) (y1 y2 : Str) : DE := fun ρ κ _ => ρ[i]? = some (.adr a) ∧ onS (look is nm y1) fun r1 => onS (look is nm y2) fun r2 => κ (.v (.bl (r1 || r2)))
section
variable {X : Cx} {W : WX} {n y y1 y2 : Str} {ms is : List (Str × Str × Bool)} {p p1 p2 p3 p4 pos : Pos}
theorem isx_cls {a : Addr} {oe : Obj} {C : Addr} {nm : Str} {pn : List (Addr × Obj)} {r : Bool} (XX : Xs X.K X.mg ms is) (hm : X.mg nm = some (.ref C)) (hr : look is nm y = some r) (hgy : Gl X y) (hny : y ≠ "__name__") (hdy : (y == ("__debug__" : Str)) = false) :
    ExcC X.K C ∧ ∃ (vy : V) (cv : Value), PE (X.suite a ((a, oe) :: pn)) (.Name y p2) (tC vy) ∧ (∀ u, RelV vy u → u = cv) ∧ PySem.W.kitOne X.K (.ref C) cv = some r := by
  obtain ⟨C', e1, xc, hy⟩ := XX.i _ (look_mem hr)
  have e1 : X.mg nm = some (.ref C') := e1
  rw [hm] at e1
  cases e1
  refine ⟨xc, ?_⟩
  rcases hy with ⟨D, e2, k2, h2⟩ | ⟨e2, bt, ey, h2⟩
  · exact ⟨.ref D, _, pe_glob (X := X.suite a ((a, oe) :: pn)) hgy e2 rfl hdy, fun u h => h, h2⟩
  · exact ⟨.ty "ValueError", _, pe_bltn (X := X.suite a ((a, oe) :: pn)) (v := .ty "ValueError") hgy e2 bt rfl hny hdy, fun u h => h, h2⟩
theorem me_isxT {a : Addr} {oe : Obj} {cls : Value} {nm : Str} {pn : List (Addr × Obj)} {k : Nat} (i : Nat) (XX : Xs X.K X.mg ms is) (hz : Zc cls none oe) (hfl : ∃ vs, oe.data = .fields vs) (hm : X.mg nm = some cls) (hI : X.mg "isinstance" = none)
    (hN : X.N[i]? = some n := by rfl) (hv : Vis X.env.scope n := by first | exact Or.inl rfl | exact Or.inr (Or.inl rfl) | exact Or.inr (Or.inr rfl)) (hd : (n == ("__debug__" : Str)) = false := by decide) (hcd : (n == ("__classdict__" : Str)) = false := by decide)
    (hg : Gl X "isinstance" := by rfl) (hg1 : Gl X y1 := by rfl) (hn1 : y1 ≠ "__name__" := by decide) (hd1 : (y1 == ("__debug__" : Str)) = false := by decide) (hg2 : Gl X y2 := by rfl) (hn2 : y2 ≠ "__name__" := by decide) (hd2 : (y2 == ("__debug__" : Str)) = false := by decide)
    (he : starEach [.Name n p1, .Tuple [.Name y1 p2, .Name y2 p3] k p4] X.env = (false, eval (.Name n p1) X.env) :: starEach [.Tuple [.Name y1 p2, .Name y2 p3] k p4] X.env := by rfl) (he2 : starEach [.Tuple [.Name y1 p2, .Name y2 p3] k p4] X.env = (false, eval (.Tuple [.Name y1 p2, .Name y2 p3] k p4) X.env) :: starEach [] X.env := by rfl)
    (he3 : starEach [.Name y1 p2, .Name y2 p3] X.env = (false, eval (.Name y1 p2) X.env) :: starEach [.Name y2 p3] X.env := by rfl) (he4 : starEach [.Name y2 p3] X.env = (false, eval (.Name y2 p3) X.env) :: starEach [] X.env := by rfl)
    (hpl : (backTo pos (starEach [.Tuple [.Name y1 p2, .Name y2 p3] k p4] X.env)).any (·.1) = false := by rfl) :
    ME (X.suite a ((a, oe) :: pn)) W (.Call (.Name "isinstance" p) [.Name n p1, .Tuple [.Name y1 p2, .Name y2 p3] k p4] [] pos) (dIsxT is a nm i y1 y2) := by
  by_cases hex : ∃ r1 r2, look is nm y1 = some r1 ∧ look is nm y2 = some r2
  · obtain ⟨r1, r2, hr1, hr2⟩ := hex
    obtain ⟨C, e1, _, _⟩ := XX.i _ (look_mem hr1)
    have e1 : X.mg nm = some (.ref C) := e1
    rw [hm] at e1
    cases e1
    obtain ⟨xc, w1, v1, q1, u1, k1⟩ := isx_cls (p2 := p2) (a := a) (oe := oe) (pn := pn) XX hm hr1 hg1 hn1 hd1
    obtain ⟨_, w2, v2, q2, u2, k2⟩ := isx_cls (p2 := p3) (a := a) (oe := oe) (pn := pn) XX hm hr2 hg2 hn2 hd2
    refine ⟨_, pe_callB (X := X.suite a ((a, oe) :: pn)) (call_isET xc hz hfl) hg hI PyProof.Rows.boot_isinstance (pa_cons (pe_var (X := X.suite a ((a, oe) :: pn)) hN hv hd hcd) (pa_cons (pe_tup (pa_cons q1 (pa_cons q2 pa_nil he4) he3)) pa_nil he2) he) (by decide) (by decide) he hpl, fun H0 G0 G ρ σ H Q κ ε R h hq hx => ?_⟩
    obtain ⟨h1, h2⟩ := h
    obtain ⟨r1', e1, h2⟩ := onS.of h2
    obtain ⟨r2', e2, h2⟩ := onS.of h2
    rw [hr1] at e1
    rw [hr2] at e2
    cases e1
    cases e2
    refine ⟨.ref a, R.sl _ _ h1, by show 2 ≤ sizeLine; decide, fun T nT => ⟨T, w1, w2, v1, v2, r1, r2, rfl, upd_same, u1, u2, k1, k2, ?_⟩⟩
    exact hq _ _ G (.v (.bl _)) (Ext.newH R.ext.s nT) toB h2
  · refine ⟨fun _ _ _ => False, ⟨fun pins s σ H Q I q => q.elim⟩, fun H0 G0 G ρ σ H Q κ ε R h hq hx => ?_⟩
    obtain ⟨_, h2⟩ := h
    obtain ⟨r1, hr1, h2⟩ := onS.of h2
    obtain ⟨r2, hr2, _⟩ := onS.of h2
    exact absurd ⟨r1, r2, hr1, hr2⟩ hex
end
end DL
/-! own dicts: walked, handed back, asked whether they are None -/
namespace DL
open PySem PySem.Spec PyProof.Rows L2
variable {K : PySem.W.Frag}
/-- the keys of the dict at a as it stands at each turn, its object being o -/
def ItX (a : Addr) (o : Obj) (es : Array DictEntry) : It :=
  ⟨fun i H => H a = some (fixO a o) ∧ i < es.size, fun i H x H' => H' = H ∧ ∃ (en : DictEntry) (q : Addr), es[i]? = some en ∧ en.key = .ref q ∧ x = .ref q, fun i H => H a = some (fixO a o) ∧ es.size ≤ i⟩
theorem turn_X {P : Program} {w : World} {tg : Expr} {d : Addr} {o : Obj} {es : Array DictEntry} {ep : Nat} (it : Addr) (hod : o.data = .dict es ep) (hk : ∀ (i : Nat) (en : DictEntry), es[i]? = some en → ∃ q, en.key = .ref q) : Turn P w K tg (ItX d o es) [it] it (fun i h => h.IsKeyIter it d i es.size ep) where
  mem := by simp
  obj := fun i h st b hb => by
    have e : b = it := by simpa using hb
    subst e
    obtain ⟨oi, e, c, dd⟩ := st
    exact ⟨oi, e, fun v z => by rw [dd] at z; cases z⟩
  keep := fun i h h' st k => st.at fun oi e => k it (by simp) oi e
  item := by
    intro X hP hw hK hc i pins s σ H E I hf st hg
    subst hP hw hK
    obtain ⟨hd, hi⟩ := hg
    obtain ⟨f0, f1, f2, f3, f4, f5⟩ := hf it (by simp)
    have hgd : s.heap.get? d = some o := (show ObjOk X.prog X.w H s.heap d (fixO d o) from I.hok d _ hd).1
    obtain ⟨en, hen⟩ : ∃ en, es[i]? = some en := ⟨es[i], by simp [hi]⟩
    obtain ⟨q, hq⟩ := hk i en hen
    refine next_key_item st hgd hod rfl hen fun h' st' sb => ?_
    have I1 : Inv X pins σ H { s with heap := h' } := I.turned (t' := s.toks) (fun b ob hb e => (sb.2 b hb).trans e) f0 f1 f3 f4 f5
    obtain ⟨oi, e, c, dd⟩ := id st'
    exact ⟨en.key, rfl, go_of (s := { s with heap := h' }) e c dd (by decide) ⟨.ref q, H, I1, hq, ⟨rfl, en, q, hen, hq, rfl⟩, st', fun b hb => (hf b hb).1⟩⟩
  done := by
    intro X hP hw hK hc i pins s σ H E I hf st hg
    subst hP hw hK
    obtain ⟨hd, hi⟩ := hg
    obtain ⟨f0, f1, f2, f3, f4, f5⟩ := hf it (by simp)
    have hgd : s.heap.get? d = some o := (show ObjOk X.prog X.w H s.heap d (fixO d o) from I.hok d _ hd).1
    exact next_key_end (I.ok.hd hc) st hgd hod rfl hi fun h' eb => ⟨rfl, I.turned (t' := s.toks) (fun b ob hb e => eb b ob hb e) f0 f1 f3 f4 f5⟩
  self := fun A i s Q E st h => by
    refine wpAny_pyIter_slot st.typeIs F.slot_dict_keyiterator_iter (wpAny_call_entry F.slot_dict_keyiterator_iter st.typeIs F.entry_dict_keyiterator_iter ?_ (F.args_dict_keyiterator_iter_1 _))
    show wpAny _ _ (ret (.ref it)) _ _ s
    exact wpAny_pure ⟨_, rfl, "dict_keyiterator", _, st.typeIs, F.slot_dict_keyiterator_next.lookup, h⟩
def iDcT (k : Nat) : TI := fun σ H R => ∃ (a : Addr) (es : Array DictEntry) (ob : HO), σ[k]? = some (some (.ref a)) ∧ H a = some ob ∧ RawAt a es ob ∧ (a == sysModules) = false ∧ (∀ (i : Nat) (en : DictEntry), es[i]? = some en → ∃ q, en.key = .ref q) ∧ ∀ (o : Obj) (ep : Nat), o.ExactDict → o.data = .dict es ep → R (ItX a o es) (upd H a (fixO a o))
theorem pi_dcK {X : Cx} {tg : Expr} {k : Nat} {x : Str} {p : Pos} (hN : X.N[k]? = some x) (hv : Vis X.env.scope x) (hd : (x == ("__debug__" : Str)) = false) (hcd : (x == ("__classdict__" : Str)) = false) : PI X tg (.Name x p) (iDcT k) := by
  refine ⟨fun pins s σ H R I h => ?_⟩
  obtain ⟨a, es, ob, e1, e2, ra, hs, hk, q⟩ := h
  refine thn ((pe_var hN hv hd hcd).run pins s σ H (fun x H1 => x = .ref a ∧ H1 = H) I ⟨_, e1, rfl, rfl⟩) fun u s1 ⟨x, H1, I1, rx, ex, eH⟩ => ?_
  subst ex eH
  obtain rfl : u = Value.ref a := rx
  obtain ⟨o, ep, ho, hx, hdt⟩ : ∃ o ep, s1.heap.get? a = some o ∧ o.ExactDict ∧ o.data = .dict es ep := by
    rcases ra with rfl | ⟨o, ep, rfl, hx, hd⟩
    · exact (show ObjOk X.prog X.w H1 s1.heap a (rawO a es) from I1.hok a _ e2).1
    · exact ⟨o, ep, (show ObjOk X.prog X.w H1 s1.heap a (fixO a o) from I1.hok a _ e2).1, hx, hd⟩
  have mu : Mut (H1 a) := by
    rcases ra with rfl | ⟨o, ep, rfl, _⟩
    · rw [e2]; exact True.intro
    · rw [e2]; exact True.intro
  have new : ObjOk X.prog X.w (upd H1 a (fixO a o)) s1.heap a (fixO a o) := ⟨ho, ⟨o, ho⟩, fun h1 h2 e k => k o e⟩
  have I2 : Inv X pins σ (upd H1 a (fixO a o)) s1 := d_write (t' := s1.toks) (h' := s1.heap) I1 mu (Heap.SameBut.refl _ _) ⟨o, ho⟩ new
  exact iter_keys hs ho hx hdt (pi_one (tk := s1.toks) I2 _ (turn_X _ hdt hk) ⟨_, Heap.get?_push_size _ rfl, rfl, rfl⟩ (q o ep hx hdt))
def sDcL (k : Nat) (ad : Addr) (all : List (Dat × V)) (g : DG) (t : DT) (a : DS) (κ : DEnds) : List Dat → List Sl → Prop
  | [], ρ => κ.nx ρ
  | d :: ds, ρ => g (.v d) ρ fun ρ1 => ρ1[k]? = some (.dc ad all) ∧ t ρ1 (fun c => if c = true then a { κ with nx := fun _ => False, ct := fun _ => False, bk := fun _ => False } ρ1 else sDcL k ad all g t a κ ds ρ1) (fun nm => κ.ex nm ρ1)
def sForDc (k : Nat) (g : DG) (t : DT) (a : DS) : DS := fun κ ρ => match ρ[k]? with
  | some (.dc ad kvs) => NoDc ad k ρ ∧ sDcL k ad kvs g t a κ (kvs.map (·.1)) ρ
  | _ => False
theorem ms_forDc {X : Cx} {W : WX} {tg c : Expr} {xs : List Stmt} {g : DG} {t : DT} {a : DS} {pos p p2 : Pos} {x : Str} {kk : Nat} {is : List Nat} (C : Cn X W kk) (k : Nat) (hg : MG1 X tg is g) (hc : MT X W c t) (ha : MSs X W xs a) (hk : k ∉ is := by decide)
    (hN : X.N[k]? = some x := by rfl) (hv : Vis X.env.scope x := by first | exact Or.inl rfl | exact Or.inr (Or.inl rfl) | exact Or.inr (Or.inr rfl)) (hd : (x == ("__debug__" : Str)) = false := by decide)
    (hcd : (x == ("__classdict__" : Str)) = false := by decide) (hs : ∀ y, foldedSetIterable (.Name x p) X.env y = pure y := by intro _; rfl) : MS X W (.For tg (.Name x p) [.If c xs [] p2] [] pos) (sForDc k g t a) := by
  obtain ⟨tg', pg, og⟩ := hg
  obtain ⟨tc, pc, oc⟩ := hc
  obtain ⟨ta, pa, oa⟩ := ha
  refine ⟨_, ps_for C.hp C.hc (pi_dcK hN hv hd hcd) pg (pss_one (ps_if pc pa pss_nil)) hs, fun H0 G0 G ρ σ H D κ R h E => ?_⟩
  unfold sForDc at h
  split at h
  · rename_i ad kvs eo
    obtain ⟨no, h⟩ := h
    obtain ⟨e1, dr, g0, h0⟩ := R.dc eo
    obtain ⟨ys, es, ⟨ob, e2, ra⟩, e3, pr, nd, lx, hsm⟩ := dr
    have esz : es.size = ys.length := by
      have := congrArg List.length (e3 X.w)
      rw [List.length_map, Array.length_toList] at this
      exact this
    have lk : kvs.length = ys.length := Paired.length pr
    have ent : ∀ (i : Nat) (en : DictEntry), es[i]? = some en → ∃ y, ys[i]? = some y ∧ en.key = .ref y.2.1 := fun i en he => by
      have : es.toList[i]? = some en := by rw [Array.getElem?_toList]; exact he
      rw [e3 X.w, List.getElem?_map] at this
      obtain ⟨y, hy, rfl⟩ := Option.map_eq_some_iff.mp this
      exact ⟨y, hy, rfl⟩
    refine ⟨ad, es, ob, e1, e2, ra, hsm, fun i en he => let ⟨y, _, z⟩ := ent i en he; ⟨_, z⟩, fun o ep hx hdt => ?_⟩
    have RF : Rel X.K H0 G0 G ρ σ (upd H ad (fixO ad o)) := by
      have := R.writeD eo no (ob := fixO ad o) (kvs' := kvs) ⟨ys, es, ⟨_, upd_same, .inr ⟨o, ep, rfl, hx, hdt⟩⟩, e3, pr, nd, lx, hsm⟩
      rw [show ρ.set k (.dc ad kvs) = ρ from ?_] at this
      · exact this
      · apply List.ext_getElem?
        intro j
        by_cases hj : k = j
        · subst hj
          rw [List.getElem?_set_self' , eo]; rfl
        · rw [List.getElem?_set_ne hj]
    have E1 := E.sub RF
    refine ⟨fun i m σ' H' => ∃ ρ' G', Rel X.K H0 G G' ρ' σ' H' ∧ ρ'[k]? = some (.dc ad kvs) ∧ σ'[k]? = some (some (.ref ad)) ∧ H' ad = some (fixO ad o) ∧ m = kvs.length - i ∧ sDcL k ad kvs g t a κ ((kvs.map (·.1)).drop i) ρ', ⟨kvs.length, ρ, G, RF.here, eo, e1, upd_same, rfl, by simpa using h⟩, ?_⟩
    rintro i m σ' H' ⟨ρ', G', R', eo', es', eh, rfl, hl⟩
    have lm : (kvs.map (·.1)).length = kvs.length := List.length_map ..
    by_cases hlt : i < kvs.length
    · refine .inr ⟨⟨eh, by omega⟩, fun σ2 H2 => ∃ ρ2 G2, Rel X.K H0 G G2 ρ2 σ2 H2 ∧ ρ2[k]? = some (.dc ad kvs) ∧ σ2[k]? = some (some (.ref ad)) ∧ H2 ad = some (fixO ad o) ∧ sDcL k ad kvs g t a κ ((kvs.map (·.1)).drop (i + 1)) ρ2, fun σ2 H2 ⟨ρ2, G2, R2, h2, h3, h4, h5⟩ => ⟨kvs.length - (i + 1), by omega, ρ2, G2, R2, h2, h3, h4, rfl, h5⟩, fun x H2 hy => ?_⟩
      obtain ⟨rfl, en, q, hen, hkey, rfl⟩ := hy
      obtain ⟨y, hy, ey⟩ := ent i en hen
      rw [hkey] at ey
      injection ey with ey
      obtain ⟨y', hy', dk⟩ := paired_get pr (List.getElem?_eq_getElem hlt)
      rw [hy] at hy'
      injection hy' with hy'
      subst hy'
      have rd : RdD X.K G' kvs[i].1 (.ref q) := by rw [ey]; exact RdD.mono R'.ext.g _ _ dk.2.2.1
      rw [List.drop_eq_getElem_cons (by rw [lm]; exact hlt), List.getElem_map] at hl
      refine og H0 G G' G' ρ' σ' _ _ (.v kvs[i].1) _ _ _ R' (Ext.refl R'.ext.s) rd hl fun ρ3 σ3 R3 tch k3 => ?_
      obtain ⟨k4, k5⟩ := k3
      have es3 : σ3[k]? = some (some (.ref ad)) := by rw [tch.2 k hk]; exact es'
      refine oc H0 G G' ρ3 σ3 _ _ _ _ R3 k5 (fun b H4 G4 x4 hb => ?_) (E1.xok R3)
      have R4 := R3.on x4
      by_cases hbb : b = true
      · rw [if_pos hbb] at hb ⊢
        exact oa H0 G G4 ρ3 σ3 H4 _ _ R4 hb ⟨fun _ _ _ _ _ z => z.elim, fun _ _ _ _ _ z => z.elim, fun _ _ _ _ _ z => z.elim, E1.rt, E1.ex⟩
      · rw [if_neg hbb] at hb ⊢
        exact ⟨ρ3, G4, R4, k4, es3, x4.h _ _ eh, hb⟩
    · refine .inl ⟨⟨eh, by omega⟩, ?_⟩
      rw [List.drop_eq_nil_of_le (by omega)] at hl
      exact E1.nx ρ' σ' H' G' R' hl
  · exact h.elim
/-! ### a def that hands back its own dict, or a value -/
abbrev DSd := DEnds → (List (Dat × V) → Prop) → List Sl → Prop
def SOkD (K : PySem.W.Frag) (mg : MG) (W : WX) (t : TS) (δ : DSd) : Prop := ∀ H0 G0 G ρ σ H (D : Ends) κ κd, Rel K H0 G0 G ρ σ H → δ κ κd ρ → EndsOk K mg W H0 G0 D κ →
  (∀ H' G' a kvs, Ext H0 G0 H' G' → DcR K G' H' a kvs → G' a = none → H0 a = none → κd kvs → D.rt (.ref a) H') → t D σ H
structure MSD (X : Cx) (W : WX) (sts : List Stmt) (δ : DSd) : Prop where
  ex : ∃ t, PSs X sts t ∧ SOkD X.K X.mg W t δ
def sSeqD (a : DS) (b : DSd) : DSd := fun κ κd ρ => a { κ with nx := b κ κd } ρ
def sRetD (i : Nat) : DSd := fun _ κd ρ => ∃ a kvs, ρ[i]? = some (.dc a kvs) ∧ κd kvs
section
variable {X : Cx} {W : WX} {st : Stmt} {rest : List Stmt} {a : DS} {b : DSd} {pos p2 : Pos}
theorem msd_cons (h1 : MS X W st a) (h2 : MSD X W rest b) : MSD X W (st :: rest) (sSeqD a b) := by
  obtain ⟨t, pa, oa⟩ := h1
  obtain ⟨u, pb, ob⟩ := h2
  refine ⟨_, pss_cons pa pb, fun H0 G0 G ρ σ H D κ κd R h E F => ?_⟩
  exact oa H0 G0 G ρ σ H _ _ R h ⟨fun ρ' σ' H' G' R' k => ob H0 G0 G' ρ' σ' H' D κ κd R' k E F, E.bk, E.ct, E.rt, E.ex⟩
theorem msd_ret (i : Nat) {x : Str} (hN : X.N[i]? = some x := by rfl) (hv : Vis X.env.scope x := by first | exact Or.inl rfl | exact Or.inr (Or.inl rfl) | exact Or.inr (Or.inr rfl)) (hd : (x == ("__debug__" : Str)) = false := by decide)
    (hcd : (x == ("__classdict__" : Str)) = false := by decide) : MSD X W [.Return (some (.Name x p2)) pos] (sRetD i) := by
  refine ⟨_, pss_one (ps_ret (pe_var hN hv hd hcd)), fun H0 G0 G ρ σ H D κ κd R ⟨a, kvs, e, k⟩ E F => ?_⟩
  obtain ⟨e1, dr, g0, h0⟩ := R.dc e
  exact ⟨_, e1, F H G a kvs R.ext dr g0 h0 k⟩
end
abbrev FspD := List Dat → (List (Dat × V) → Prop) → (Rv → Prop) → (Str → Prop) → Prop
def spD (K : PySem.W.Frag) (mg : MG) (ms : List Bool) (S : FspD) : Sp := fun vs H Q E => ∃ G ds, Same G H ∧ ArgsR K G H ms ds vs ∧ ∃ κd κ ε, S ds κd κ ε ∧ (∀ v H' G' r, Ext H G H' G' → RvR K H G' H H' r v → retOk r = true → κ r → Q v H') ∧
  (∀ H' G' a kvs, Ext H G H' G' → DcR K G' H' a kvs → G' a = none → H a = none → κd kvs → Q (.ref a) H') ∧ (∀ nm cls H' G', Ext H G H' G' → mg nm = some cls → ε nm → E cls none H')
section
variable {P : Program} {w : World} {mg : MG} {base : Heap}
theorem fn_dlR {x qual : Str} {st : Stmt} {f : Addr} {fd : FuncData} {N ps : List Str} {k : Nat} {ms : List Bool} {S : FspD} {δ : DSd} (F : Fun K x qual st f fd) (sc : FnScope N ps (defScope st)) (hms : ms.length = ps.length)
    (hb : ∀ (cdv : Value) (A : Around) (outer : List Env) (s : Shared) (H : Hp) (E : XK), Cn (cxOf (L2.CX P w) P w K mg base N qual (defScope st) f cdv A outer s H E) (WE0 E) k → MSD (cxOf (L2.CX P w) P w K mg base N qual (defScope st) f cdv A outer s H E) (WE0 E) (defBody st) δ)
    (sem : ∀ ds κd κ ε, S ds κd κ ε → δ (endsOf κ ε) κd (entry ms N.length ds)) : FnOk P w K mg base (L2.CX P w) (k + 1) f fd ps (spD K mg ms S) := by
  refine F.okX sc (fun vs H Q E ⟨G, ds, _, h, _⟩ => by rw [args_len h, hms]) (fun cdv A outer s H vs Q E hr hsp => ?_)
  obtain ⟨G, ds, s1, h1, κd, κ, ε, hS, hq, hd, hx⟩ := hsp
  have C : Cn (cxOf (L2.CX P w) P w K mg base N qual (defScope st) f cdv A outer s H E) (WE0 E) k := ⟨takes_of rfl rfl rfl rfl, passes_of rfl, rfl, hr, sc.nd⟩
  obtain ⟨t, pt, ot⟩ := hb cdv A outer s H E C
  refine ⟨t, pt, ot H G G _ _ H _ (endsOf κ ε) κd (entry_rel s1 h1) (sem ds κd κ ε hS) ?_ fun H' G' a kvs x dr g0 h0 k => hd H' G' a kvs x dr g0 h0 k⟩
  refine ⟨fun ρ σ H' G' R k => ?_, fun _ _ _ _ _ k => k.elim, fun _ _ _ _ _ k => k.elim, fun v H' G' r x hr ok k => hq v H' G' r x hr ok k, fun nm cls ρ σ H' G' R h k => hx nm cls H' G' R.ext h k⟩
  exact hq _ H' G' (.v .non) R.ext (by show RdD K _ _ _; unfold RdD; rfl) rfl k
end
structure CalR (P : Program) (w : World) (K : PySem.W.Frag) (mg : MG) (base : Heap) (j : Nat) (x : Str) (ps : List Str) (ms : List Bool) (S : FspD) : Prop where
  ex : ∃ f fd, FnOk P w K mg base (L2.CX P w) j f fd ps (spD K mg ms S) ∧ mg x = some (.ref f) ∧ PySem.W.keepIn K (.ref f) = true ∧ Binds K fd ps []
theorem CalR.mk' {P : Program} {w : World} {K : PySem.W.Frag} {mg : MG} {base : Heap} {j : Nat} {x : Str} {ps : List Str} {ms : List Bool} {S : FspD} {f : Addr} {fd : FuncData} (F : FnOk P w K mg base (L2.CX P w) j f fd ps (spD K mg ms S)) (h1 : mg x = some (.ref f)) (h2 : PySem.W.keepIn K (.ref f) = true) (h3 : Binds K fd ps []) : CalR P w K mg base j x ps ms S := ⟨f, fd, F, h1, h2, h3⟩
/-- x = f(..), f handing back a dict or a value -/
def sCallR (i : Nat) (ms : List Bool) (S : FspD) (a : DA) : DS := fun κ ρ => a ρ (fun rs => match conv ms rs with
  | some ds => S ds (fun kvs => ∀ ad, (∀ (j : Nat) (kv : List (Dat × V)), ρ[j]? ≠ some (Sl.dc ad kv)) → κ.nx (ρ.set i (.dc ad kvs))) (fun r => gN i r ρ κ.nx) (fun nm => κ.ex nm ρ)
  | none => False) (fun nm => κ.ex nm ρ)
theorem Rel.putDc {H0 G0 G H : Hp} {ρ : List Sl} {σ : L2.St} (R : Rel K H0 G0 G ρ σ H) (i : Nat) {a : Addr} {kvs : List (Dat × V)} (dr : DcR K G H a kvs) (g0 : G a = none) (h0 : H0 a = none) : Rel K H0 G0 G (ρ.set i (.dc a kvs)) (σ.set i (some (.ref a))) H := by
  refine ⟨R.ext, by rw [List.length_set, List.length_set]; exact R.len, fun j t ht => ?_, fun j k ds es l hj hk lj lk => ?_⟩
  · by_cases hij : i = j
    · subst hij
      by_cases hi : i < ρ.length
      · rw [List.getElem?_set_self hi] at ht
        cases ht
        refine ⟨?_, dr, g0, h0⟩
        rw [List.getElem?_set_self (by rw [← R.len]; exact hi)]
      · rw [List.getElem?_eq_none (by rw [List.length_set]; omega)] at ht
        exact nomatch ht
    · rw [List.getElem?_set_ne hij] at ht ⊢
      exact R.sl j t ht
  · have back : ∀ (b : Nat) (as : List Dat) (m : Addr), (ρ.set i (.dc a kvs))[b]? = some (.ow as) → (σ.set i (some (.ref a)))[b]? = some (some (.ref m)) → ρ[b]? = some (.ow as) ∧ σ[b]? = some (some (.ref m)) := fun b as m h h' => by
      by_cases hib : i = b
      · subst hib
        by_cases hi : i < ρ.length
        · rw [List.getElem?_set_self hi] at h; exact nomatch h
        · rw [List.getElem?_eq_none (by rw [List.length_set]; omega)] at h; exact nomatch h
      · rw [List.getElem?_set_ne hib] at h h'
        exact ⟨h, h'⟩
    obtain ⟨a1, a2⟩ := back _ _ _ hj lj
    obtain ⟨b1, b2⟩ := back _ _ _ hk lk
    exact R.inj j k ds es l a1 b1 a2 b2
section
variable {X : Cx} {W : WX} {e : Expr} {es : List Expr} {da : DA} {f y : Str} {p p2 pos spos : Pos} {ps : List Str} {ms : List Bool} {S : FspD} {k j : Nat}
theorem ms_callR (i : Nat) (C : Cn X W k) (F : CalR X.prog X.w X.K X.mg X.base j f ps ms S) (ha : MA X W (e :: es) da) (hj : j ≤ k := by decide) (hg : Gl X f := by rfl)
    (hdb : (f == ("__debug__" : Str)) = false := by decide) (he : starEach (e :: es) X.env = (false, eval e X.env) :: starEach es X.env := by rfl) (hpl : (backTo pos (starEach es X.env)).any (·.1) = false := by rfl)
    (hi : X.N[i]? = some y := by rfl) (hx : Loc X.env.scope y := by first | exact Or.inl rfl | exact Or.inr rfl)
    (hs : swapsWith (.Call (.Name f p) (e :: es) [] pos) (some (.Name y p2)) spos.line X.env = pure false := by rfl) (hf : X.fn y = true ∨ X.env.scope.names.lookup y = some .local := by first | exact .inl rfl | exact .inr rfl | assumption) : MS X W (.Assign [.Name y p2] (.Call (.Name f p) (e :: es) [] pos) spos) (sCallR i ms S da) := by
  obtain ⟨fa, fd, F, h1, h2, h3⟩ := F
  obtain ⟨t, pa, oa⟩ := ha
  refine ⟨_, ps_set C.nd hi hx (pe_callS F (C.hr.mono hj) hg h1 h2 h3 (fun σ => passAt C.tk σ) pa hdb he hpl) hs hf, fun H0 G0 G ρ σ H D κ R h E => ?_⟩
  refine oa H0 G0 G ρ σ H _ _ _ R h (fun vs H1 G1 rs x1 hr k1 => ?_) (E.xok R)
  split at k1
  · rename_i ds ed
    have R1 := R.on x1
    obtain ⟨G2, x2, s2, r2⟩ := conv_ok R1.ext.h x1 ms rs vs ds hr ed
    refine ⟨G2, ds, x2.s, r2, _, _, _, k1, fun v H' G' r x hr' ok kr => ?_, fun H' G' a kvs x dr g0 h0 kd => ?_, fun nm cls H' G' x hm hk => E.ex nm cls ρ σ H' G' (R.on (x2.trans x)) hm hk⟩
    · unfold gN at kr
      split at kr
      · rename_i s er
        refine E.nx _ _ _ _ (R.store (x2.trans x) ?_ er i) kr
        cases r with
        | v d => exact hr'
        | n ds => obtain ⟨l, vs, a, b, c, n, g⟩ := hr'; exact ⟨l, vs, a, b, c, x2.h.free n, g⟩
        | b ds => exact nomatch ok
        | o ds => exact nomatch ok
      · exact kr.elim
    · have R2 := R.on (x2.trans x)
      refine E.nx _ _ _ _ (R2.putDc i dr g0 (R1.ext.h.free h0)) (kd a fun j kv z => ?_)
      have R1' := R.on x2
      obtain ⟨_, d2, _⟩ := R1'.dc z
      obtain ⟨φ, ea⟩ := d2.at
      rw [h0] at ea
      exact nomatch ea
  · exact k1.elim
/-- x is None, x a name that may hold an own dict -/
def tIsNd (i : Nat) : DT := fun ρ κ _ => match ρ[i]? with
  | some (.dc _ _) => κ false
  | some (.fz .non) => κ true
  | _ => False
theorem mt_isNd (i : Nat) {q : Nat} (hN : X.N[i]? = some y := by rfl) (hv : Vis X.env.scope y := by first | exact Or.inl rfl | exact Or.inr (Or.inl rfl) | exact Or.inr (Or.inr rfl)) (hd : (y == ("__debug__" : Str)) = false := by decide)
    (hcd : (y == ("__classdict__" : Str)) = false := by decide) : MT X W (.Compare (.Name y p) [.Is] [.Constant .none q p2] pos) (tIsNd i) := by
  refine ⟨_, pt_cmpR op_isN (pe_var hN hv hd hcd) pe_non (nomark _), fun H0 G0 G ρ σ H Q κ ε R h hq hx => ?_⟩
  unfold tIsNd at h
  split at h
  · rename_i a kvs e
    obtain ⟨e1, _⟩ := R.dc e
    exact ⟨_, e1, rfl, false, rfl, hq false H G (Ext.refl R.ext.s) h⟩
  · rename_i e
    obtain ⟨v, e1, e2⟩ := R.sl _ _ e
    unfold RdD at e2
    subst e2
    exact ⟨_, e1, rfl, true, rfl, hq true H G (Ext.refl R.ext.s) h⟩
  · exact h.elim
end
end DL
/-! min(x, y), max(x, y) of two tuples -/
namespace RT
open PySem PySem.Spec PyProof.Rows
section
variable {prog : Program} {w : World} {A : Around} {E : Value → Shared → Prop} {s : Shared}
theorem call_min_twoH {a b : Value} {Q : Value → Shared → Prop}
    (h : wpAny (model prog w) A.in1 (pyIter (.ref s.heap.objs.size)) (fun it s₂ => ∃ I fp wr G n P St H bt, it = .ref I ∧ WalksS prog w A.in1 I fp wr G n P St ∧ St 0 s₂ ∧ (∀ b ∈ fp, b < s₂.heap.objs.size) ∧ 0 < n ∧
      (∀ b o, H.get? b = some o → b ∉ wr) ∧ (∀ b o, H.get? b = some o → s₂.heap.get? b = some o) ∧ PySem.CmpIn prog w A.in1 .Lt H P bt ∧ ∀ v s', P (argBest bt (n - 1)) v → Moved wr G s₂ s' → Q v s') E
      { s with heap := s.heap.push { cls := .type "tuple", data := .seq #[a, b] } }) :
    wpAny (model prog w) A (call (.builtin "min") [a, b]) Q E s := by
  have hname : (toString "min" ++ toString ".loop" : String) = "min.loop" := by decide
  refine call_function_tree F.kind_min F.plain_min F.entry_min (F.args_min2 _ _) ?_
  show wpAny _ A.in1 (Builtin.Builtins.bindParams "min" ["key", "default"] 0 ⟨[], []⟩ >>= _) _ _ s
  refine wpAny_bind (wpAny_of_eq (show Builtin.Builtins.bindParams "min" ["key", "default"] 0 ⟨[], []⟩ = pure [none, none] from rfl) ?_)
  show wpAny _ A.in1 (newTuple [a, b] >>= _) _ _ s
  refine wpAny_bind (wpAny_newObj_type ?_)
  refine wpAny_bind (wpAny_mono h (fun it s₂ h₂ => ?_) fun _ _ e => e)
  obtain ⟨I, fp, wr, G, n, P, St, H, bt, rfl, W, hst, hfp, hn, hw, hkeep, hcmp, hQ⟩ := h₂
  refine wpAny_bind (wpAny_newObj_type ?_)
  have hSf : s₂.heap.objs.size ∉ fp := fun hm => Nat.lt_irrefl _ (hfp _ hm)
  rw [hname]
  refine wpAny_pure ⟨plainId_quiet F.plain_min_loop _, PySem.codeAny_min_loop_firstH W H hw bt hcmp s₂.heap.objs.size hSf (PySem.fresh_in hkeep) _ hn (fun b o e => Heap.get?_push_of_some _ (hkeep b o e)) (W.frame 0 s₂ _ s₂.toks hst (Nat.le_refl _) fun b _ o e => Heap.get?_push_of_some _ e) (Heap.get?_push_size _ rfl) fun v s' hP hm => ?_⟩
  exact hQ v s' hP (Moved.drop_new (tk := s₂.toks) hm (Nat.le_refl _))
theorem call_max_twoH {a b : Value} {Q : Value → Shared → Prop}
    (h : wpAny (model prog w) A.in1 (pyIter (.ref s.heap.objs.size)) (fun it s₂ => ∃ I fp wr G n P St H bt, it = .ref I ∧ WalksS prog w A.in1 I fp wr G n P St ∧ St 0 s₂ ∧ (∀ b ∈ fp, b < s₂.heap.objs.size) ∧ 0 < n ∧
      (∀ b o, H.get? b = some o → b ∉ wr) ∧ (∀ b o, H.get? b = some o → s₂.heap.get? b = some o) ∧ PySem.CmpIn prog w A.in1 .Gt H P bt ∧ ∀ v s', P (argBest bt (n - 1)) v → Moved wr G s₂ s' → Q v s') E
      { s with heap := s.heap.push { cls := .type "tuple", data := .seq #[a, b] } }) :
    wpAny (model prog w) A (call (.builtin "max") [a, b]) Q E s := by
  have hname : (toString "max" ++ toString ".loop" : String) = "max.loop" := by decide
  refine call_function_tree F.kind_max F.plain_max F.entry_max (F.args_max2 _ _) ?_
  show wpAny _ A.in1 (Builtin.Builtins.bindParams "max" ["key", "default"] 0 ⟨[], []⟩ >>= _) _ _ s
  refine wpAny_bind (wpAny_of_eq (show Builtin.Builtins.bindParams "max" ["key", "default"] 0 ⟨[], []⟩ = pure [none, none] from rfl) ?_)
  show wpAny _ A.in1 (newTuple [a, b] >>= _) _ _ s
  refine wpAny_bind (wpAny_newObj_type ?_)
  refine wpAny_bind (wpAny_mono h (fun it s₂ h₂ => ?_) fun _ _ e => e)
  obtain ⟨I, fp, wr, G, n, P, St, H, bt, rfl, W, hst, hfp, hn, hw, hkeep, hcmp, hQ⟩ := h₂
  refine wpAny_bind (wpAny_newObj_type ?_)
  have hSf : s₂.heap.objs.size ∉ fp := fun hm => Nat.lt_irrefl _ (hfp _ hm)
  rw [hname]
  refine wpAny_pure ⟨plainId_quiet F.plain_max_loop _, PySem.codeAny_max_loop_firstH W H hw bt hcmp s₂.heap.objs.size hSf (PySem.fresh_in hkeep) _ hn (fun b o e => Heap.get?_push_of_some _ (hkeep b o e)) (W.frame 0 s₂ _ s₂.toks hst (Nat.le_refl _) fun b _ o e => Heap.get?_push_of_some _ e) (Heap.get?_push_size _ rfl) fun v s' hP hm => ?_⟩
  exact hQ v s' hP (Moved.drop_new (tk := s₂.toks) hm (Nat.le_refl _))
end
end RT
namespace DL
open PySem PySem.Spec PyProof.Rows L2
variable {K : PySem.W.Frag}
def rMm2 (K : PySem.W.Frag) (m : Dat → List Dat → Dat) : List V → Hp → VK → Prop := fun vs H Q => ∃ (d e : Dat) (x y : V), vs = [x, y] ∧ RdL K H [d, e] [x, y] ∧ AlkOk [d, e] ∧
  ∀ (i : Nat) (z : V), [x, y][i]? = some z → [d, e][i]? = some (m d [e]) → Q z H
theorem cr_min2D {X : Cx} (hc : X.calm = true) (hu : X.A.units + 66 < cLine) : CallR X (.builtin "min") (rMm2 X.K minO) := by
  intro pins s σ H vs us Q I r h
  obtain ⟨d, e, x, y, rfl, hr, ok, q⟩ := h
  obtain ⟨u1, u2, rfl, ru1, ru2⟩ := vals2 r
  obtain ⟨p1, p2⟩ := ok.plain
  obtain ⟨as, ra⟩ := Dp.readsAll I _ _ _ (RdL.dp _ _ p1 hr) r
  have ra' : ReadsAll s.heap (#[u1, u2] : Array Value).toList (toPyL [d, e]) as := ra
  have hT : (s.heap.push { cls := .type "tuple", data := .seq #[u1, u2] }).IsTuple s.heap.objs.size #[u1, u2] := ⟨_, Heap.get?_push_size _ rfl, rfl, 0, rfl⟩
  have kp : ∀ b o, s.heap.get? b = some o → (s.heap.push { cls := .type "tuple", data := .seq #[u1, u2] }).get? b = some o := fun b o z => Heap.get?_push_of_some _ z
  refine RT.call_min_twoH (PySem.W.iter_tupleW (A := X.A.in1) (I.ok.hd hc) hT fun s₂ es W st hfp hw hk => ?_)
  refine ⟨_, _, _, _, _, _, _, s.heap, _, rfl, W, st, hfp, Nat.zero_lt_succ 1, fun b o z => hw b o (kp b o z), fun b o z => hk b o (kp b o z), PySem.W.cmpIn_lt (A := X.A.in1) ra' ok.al (by show X.A.units + 1 + _ < _; omega), fun v s' hP m => ?_⟩
  obtain ⟨h', tk, rfl, hk'⟩ := PySem.W.moved_old es rfl m
  have ebt : (fun i j => PySem.W.dataLt ((toPyL [d, e]).getD i .none) ((toPyL [d, e]).getD j .none)) = fun i j => ltD ([d, e].getD i .non) ([d, e].getD j .non) := by
    funext i j; rw [getD_py, getD_py]; rfl
  rw [ebt] at hP
  have hP : (#[u1, u2] : Array Value)[argBest (fun i j => ltD ([d, e].getD i .non) ([d, e].getD j .non)) [e].length]? = some v := hP
  obtain ⟨z, hz, rz⟩ := vals_at r _ v (by simpa using hP)
  exact ⟨z, H, I.kept (t' := tk) fun b o z => hk' b o (kp b o z), rz, q _ z hz (best_at d [e] rfl)⟩
theorem cr_max2D {X : Cx} (hc : X.calm = true) (hu : X.A.units + 66 < cLine) : CallR X (.builtin "max") (rMm2 X.K maxO) := by
  intro pins s σ H vs us Q I r h
  obtain ⟨d, e, x, y, rfl, hr, ok, q⟩ := h
  obtain ⟨u1, u2, rfl, ru1, ru2⟩ := vals2 r
  obtain ⟨p1, p2⟩ := ok.plain
  obtain ⟨as, ra⟩ := Dp.readsAll I _ _ _ (RdL.dp _ _ p1 hr) r
  have ra' : ReadsAll s.heap (#[u1, u2] : Array Value).toList (toPyL [d, e]) as := ra
  have hT : (s.heap.push { cls := .type "tuple", data := .seq #[u1, u2] }).IsTuple s.heap.objs.size #[u1, u2] := ⟨_, Heap.get?_push_size _ rfl, rfl, 0, rfl⟩
  have kp : ∀ b o, s.heap.get? b = some o → (s.heap.push { cls := .type "tuple", data := .seq #[u1, u2] }).get? b = some o := fun b o z => Heap.get?_push_of_some _ z
  refine RT.call_max_twoH (PySem.W.iter_tupleW (A := X.A.in1) (I.ok.hd hc) hT fun s₂ es W st hfp hw hk => ?_)
  refine ⟨_, _, _, _, _, _, _, s.heap, _, rfl, W, st, hfp, Nat.zero_lt_succ 1, fun b o z => hw b o (kp b o z), fun b o z => hk b o (kp b o z), PySem.W.cmpIn_gt (A := X.A.in1) ra' ok.al (by show X.A.units + 1 + _ < _; omega), fun v s' hP m => ?_⟩
  obtain ⟨h', tk, rfl, hk'⟩ := PySem.W.moved_old es rfl m
  have ebt : (fun i j => PySem.W.dataLt ((toPyL [d, e]).getD j .none) ((toPyL [d, e]).getD i .none)) = fun i j => ltD ([d, e].getD j .non) ([d, e].getD i .non) := by
    funext i j; rw [getD_py, getD_py]; rfl
  rw [ebt] at hP
  have hP : (#[u1, u2] : Array Value)[argBest (fun i j => ltD ([d, e].getD j .non) ([d, e].getD i .non)) [e].length]? = some v := hP
  obtain ⟨z, hz, rz⟩ := vals_at r _ v (by simpa using hP)
  exact ⟨z, H, I.kept (t' := tk) fun b o z => hk' b o (kp b o z), rz, q _ z hz (best_at (f := fun a b => ltD b a) d [e] rfl)⟩
def kMm2 (m : Dat → List Dat → Dat) : List Rv → (Rv → Prop) → Prop := fun rs κ => match rs with
  | [.v d, .v e] => AlkOk [d, e] ∧ κ (.v (m d [e]))
  | _ => False
theorem opa_mm2 {m : Dat → List Dat → Dat} : OpA K (rMm2 K m) (kMm2 m) := by
  intro H0 G Hs H rs vs Q κ s s0 sh h k q
  unfold kMm2 at k
  split at k
  · rename_i d e
    obtain ⟨v, w, rfl, h1, h2⟩ := h
    obtain ⟨u, w2, rfl, h3, h4⟩ := h2
    have h4 : w2 = [] := h4
    subst h4
    have h1 : RdD K G d v := h1
    have h3 : RdD K G e u := h3
    have rl : RdL K G [d, e] [v, u] := RdL.cons h1 (RdL.cons h3 RdL.nil)
    refine ⟨d, e, v, u, rfl, rl.mono s, k.1, fun i x hx hd => ?_⟩
    obtain ⟨y, hy, ry⟩ := rl.get hd
    rw [hx] at hy
    cases hy
    exact q _ _ _ (.v (m d [e])) (Ext.refl s) ry k.2
  · exact k.elim
section
variable {X : Cx} {W : WX} {p pos : Pos} {e : Expr} {es : List Expr} {da : DA}
theorem me_min2D {k : Nat} (C : Cn X W k) (hm : X.mg "min" = none) (ha : MA X W (e :: es) da) (hg : Gl X "min" := by rfl) (he : starEach (e :: es) X.env = (false, eval e X.env) :: starEach es X.env := by rfl) (hpl : (backTo pos (starEach es X.env)).any (·.1) = false := by rfl) : ME X W (.Call (.Name "min" p) (e :: es) [] pos) (dB (kMm2 minO) da) :=
  me_B (cr_min2D C.hc (Room.u66 C.hr)) opa_mm2 (by decide +kernel) hm ha hg (by decide) (by decide) he hpl
theorem me_max2D {k : Nat} (C : Cn X W k) (hm : X.mg "max" = none) (ha : MA X W (e :: es) da) (hg : Gl X "max" := by rfl) (he : starEach (e :: es) X.env = (false, eval e X.env) :: starEach es X.env := by rfl) (hpl : (backTo pos (starEach es X.env)).any (·.1) = false := by rfl) : ME X W (.Call (.Name "max" p) (e :: es) [] pos) (dB (kMm2 maxO) da) :=
  me_B (cr_max2D C.hc (Room.u66 C.hr)) opa_mm2 (by decide +kernel) hm ha hg (by decide) (by decide) he hpl
end
end DL
namespace RT
open PySem PySem.Spec PyProof.Rows
section
variable {prog : Program} {w : World} {A : Around} {E : Value → Shared → Prop} {s : Shared}
theorem collect_tuple {l : Addr} {vs : List Value} {Q : List Value → Shared → Prop} (hl : s.heap.IsTuple l vs.toArray)
    (h : Q vs { s with heap := (s.heap.push (seqObj "list" #[] 0)).update s.heap.objs.size (Obj.mapSeq (· ++ vs.toArray)) }) (hsz : vs.length ≤ sizeLine) :
    wpAny (model prog w) A (collect (.ref l)) Q E s := by
  obtain ⟨o, ho, hc, n, hd⟩ := id hl
  unfold collect
  refine wpAny_bind (wpAny_runValue (codeAny_builtin entry_proto_collect' ?_))
  show wpAny _ _ (do again (.builtin "list.__iadd__" ⟨[← newList [], .ref l], []⟩)) _ _ s
  refine wpAny_bind (wpAny_newList (wpAny_pure ⟨Code.quiet_builtin _ (by decide +kernel), codeAny_builtin entry_list_iadd' ?_⟩))
  show wpAny _ _ (Builtin.List.listExtendWith (.ref s.heap.objs.size) (.ref l) (.ref s.heap.objs.size)) _ _ { s with heap := s.heap.push (seqObj "list" #[] 0) }
  unfold Builtin.List.listExtendWith
  have ho' : (s.heap.push (seqObj "list" #[] 0)).get? l = some o := Heap.get?_push_of_some _ ho
  refine wpAny_bind (wpAny_typeOf (T := "tuple") ⟨o, ho', hc⟩ ?_)
  have ht : (Value.type "tuple" == Value.type "tuple") = true := by rfl
  rw [if_pos (by rw [ht]; simp)]
  refine wpAny_bind (listItems_at ho' hd ?_)
  refine wpAny_bind (listItems_at (xs := #[]) (n := 0) (Heap.get?_push_size _ rfl) rfl ?_)
  rw [if_neg (by simp)]
  refine wpAny_bind (listUpdate_at (xs := #[]) (n := 0) (Heap.get?_push_size _ rfl) rfl ?_ (Nat.zero_le _) (by show (#[] ++ vs.toArray).size ≤ sizeLine + 1; simp only [Array.size_append, List.size_toArray, List.length_nil]; omega))
  refine wpAny_pure ?_
  show wpAny (model prog w) A (do
      let o ← load s.heap.objs.size
      match o.data with
      | .seq xs _ => pure xs.toList
      | _ => unsupported "internal:collect") Q E { s with heap := (s.heap.push (seqObj "list" #[] 0)).update s.heap.objs.size (Obj.mapSeq (· ++ vs.toArray)) }
  refine wpAny_bind (wpAny_load (get?_update_seq (Heap.get?_push_size _ rfl) _) ?_)
  show wpAny _ _ (pure ((#[] : Array Value) ++ vs.toArray).toList) Q E _
  rw [show ((#[] : Array Value) ++ vs.toArray).toList = vs by simp]
  exact wpAny_pure h
end
end RT
namespace RT
open PySem PySem.Spec PyProof.Rows PySem.W
section
variable {prog : Program} {w : World} {A : Around} {E : Value → Shared → Prop} {s : Shared}
theorem sorted_of_sortT {l : Addr} {vs : List Value} {Q : Value → Shared → Prop} (hl : s.heap.IsTuple l vs.toArray) (hL : vs.length ≤ sizeLine)
    (body : ∀ E' : Value → Shared → Prop, wpAny (model prog w) A.in1.in1 (Builtin.«list.sort» ⟨[.ref (s.heap.objs.size + 1)], []⟩) (fun f s' => f = .done (.ret .none) ∧ Q (.ref (s.heap.objs.size + 1)) s') E' { s with heap := copyHeap s.heap vs }) :
    wpAny (model prog w) A (call (.builtin "sorted") [.ref l]) Q E s := by
  refine Calls.call_function_entry kind_sorted plain_sorted entry_sorted (args_sorted1 _) ?_
  unfold Builtin.«sorted»
  refine wpAny_bind (m := checkCount "sorted" 1 1 _) (wpAny_pure ?_)
  refine wpAny_bind (collect_tuple hl ?_ hL)
  refine wpAny_bind (wpAny_newList ?_ hL)
  have hsz : ((s.heap.push (seqObj "list" #[] 0)).update s.heap.objs.size (Obj.mapSeq (· ++ vs.toArray))).objs.size = s.heap.objs.size + 1 := by
    rw [Heap.size_update, size_push']
  show wpAny _ _ _ _ _ { s with heap := copyHeap s.heap vs }
  rw [hsz]
  refine wpAny_bind (wpAny_holding (wpAny_call_entry_kw slot_list_sort ⟨_, copyHeap_at s.heap vs, rfl⟩ entry_list_sort ?body (args_list_sort _)))
  case body =>
    show wpAny (model prog w) A.in1.in1 (Builtin.«list.sort» ⟨[.ref (s.heap.objs.size + 1)], []⟩) _ _ _
    refine wpAny_mono (body _) (fun f s' hf => ?_) fun _ _ e => e
    obtain ⟨rfl, hq⟩ := hf
    exact ⟨_, rfl, wpAny_pure ⟨_, rfl, hq⟩⟩
variable {β : Type} {vs : List Value} {bs : List β} {enc : β → PyData} {R : Value → β → Prop}
theorem sorted_dataT {l : Addr} {Q : Value → Shared → Prop} (hl : s.heap.IsTuple l vs.toArray) (e : EachIs R vs bs) (er : EachIs (fun v b => ∃ as, Reads s.heap v (enc b) as) vs bs) (hal : AllAlike (bs.map enc)) (hk : Sortable (bs.map enc)) (hL : bs.length ≤ sizeLine)
    (hu : ∀ b, b ∈ bs → A.units + 2 + (enc b).depth < cLine) (h : ∀ out, out.length = bs.length → EachIs R out (bs.mergeSort (dataLe false enc)) → Q (.ref (s.heap.objs.size + 1)) { s with heap := sortedAll s.heap vs (List.toArray out) }) :
    wpAny (model prog w) A (call (.builtin "sorted") [.ref l]) Q E s := by
  have er' : EachIs (fun v b => ∃ as, Reads (sortingHeap (copyHeap s.heap vs) (s.heap.objs.size + 1) vs) v (enc b) as) vs bs := er.mono fun _ _ ⟨as, r⟩ => ⟨as, PyProof.Rows.Reads.keeps (fun _ _ => sorting_copy_old) r⟩
  have hL' : vs.length ≤ sizeLine := by rw [e.length]; exact hL
  exact sorted_of_sortT hl hL' fun _ => list_sort_vals (s := { s with heap := copyHeap s.heap vs }) (copyHeap_at s.heap vs) (SortsAt.data (s := { s with heap := sortingHeap (copyHeap s.heap vs) (s.heap.objs.size + 1) vs }) (each_map (R := fun v d => ∃ as, Reads (sortingHeap (copyHeap s.heap vs) (s.heap.objs.size + 1) vs) v d as) enc er') hal hk (bound_map hu)) hL' ⟨rfl, h _ (by rw [sortVals_length false rfl]; exact e.length) (sortVals_data false e er' hal)⟩
end
end RT
namespace DL
open PySem PySem.Spec PyProof.Rows L2
variable {K : PySem.W.Frag}
def rSortDT (K : PySem.W.Frag) : List V → Hp → VK → Prop := fun vs H Q => ∃ (a : Addr) (ds : List Dat) (xs : List V), vs = [V.ref a] ∧ SqT K H a xs ∧ RdL K H ds xs ∧ SrtOk ds ∧ ds.length ≤ sizeLine ∧
  ∀ (ys : List V) (p : Addr), (∀ G, RdL K G ds xs → RdL K G (sortD ds) ys) → H p = none → Q (.ref p) (upd H p (.lst ys))
theorem cr_sortDT {X : Cx} (hu : X.A.units + 66 < cLine) : CallR X (.builtin "sorted") (rSortDT X.K) := by
  intro pins s σ H vs us Q I r h
  obtain ⟨a, ds, xs, rfl, hs, hr, ok, hz, q⟩ := h
  obtain ⟨its, rv, hl, _⟩ := I.tuple hs
  rw [Vals.ref1 r]
  have hlen := hr.len
  have ef : (ds.zip xs).map (fun b => toPy b.1) = toPyL ds := by
    have e0 : (ds.zip xs).map (fun b => toPy b.1) = ((ds.zip xs).map (·.1)).map toPy := by rw [List.map_map]; rfl
    rw [toPyL_map, e0, zip_fst hlen]
  have e1 := each_of (ds := ds) rv hlen
  have e2 : PySem.W.EachIs (fun (v : Value) (b : Dat × V) => ∃ as, Reads s.heap v (toPy b.1) as) its (ds.zip xs) := by
    have key : ∀ {us : List Value} {bs : List (Dat × V)}, PySem.W.EachIs (fun (u : Value) (b : Dat × V) => RelV b.2 u) us bs → (∀ b ∈ bs, RdD X.K H b.1 b.2 ∧ plainD b.1 = true) → PySem.W.EachIs (fun (v : Value) (b : Dat × V) => ∃ as, Reads s.heap v (toPy b.1) as) us bs := by
      intro us bs h
      induction h with
      | nil => intro _; exact .nil
      | cons r _ ih =>
        intro hb
        obtain ⟨b1, b2⟩ := hb _ List.mem_cons_self
        exact .cons (Dp.reads I _ _ _ (RdD.dp _ _ b2 b1) r) (ih fun b hm => hb b (List.mem_cons_of_mem _ hm))
    refine key e1 fun b hb => ⟨hr.zip b hb, (ok.ok b.1 ?_).1⟩
    exact (List.of_mem_zip (a := b.1) (b := b.2) hb).1
  have hlz : (ds.zip xs).length ≤ sizeLine := by rw [List.length_zip, hlen, Nat.min_self, ← hlen]; exact hz
  refine RT.sorted_dataT (enc := fun b : Dat × V => toPy b.1) hl e1 e2 (by rw [ef]; exact ok.al) (by rw [ef]; exact ok.so) hlz (fun b hb => ?_) fun out ho h2 => ?_
  · have := (ok.ok b.1 (List.of_mem_zip (a := b.1) (b := b.2) hb).1).2
    show X.A.units + 2 + (toPy b.1).depth < cLine
    omega
  · obtain ⟨ep, he'⟩ := PyProof.Rows.sortedAll_at s.heap its out.toArray
    have hv := each_vals h2
    generalize hS : (ds.zip xs).mergeSort (PySem.W.dataLe false fun b : Dat × V => toPy b.1) = S at h2 hv
    have em : S.map (·.1) = sortD ds := by
      rw [← hS]
      unfold sortD
      have e0 := List.map_mergeSort (l := ds.zip xs) (r := PySem.W.dataLe false fun b : Dat × V => toPy b.1) (s := fun a b => !ltD b a) (f := fun p : Dat × V => p.1) (fun a _ b _ => rfl)
      rw [zip_fst hlen] at e0
      exact e0
    have hp : ∀ p ∈ S, p ∈ ds.zip xs := fun p hm => by rw [← hS] at hm; exact (List.mem_mergeSort).mp hm
    have hl2 : (S.map (·.2)).length ≤ sizeLine := by rw [List.length_map, ← hS, List.length_mergeSort]; exact hlz
    refine ⟨.ref _, upd H (s.heap.objs.size + 1) (.lst (S.map (·.2))), I.laid (t' := s.toks) (fun _ _ => PyProof.Rows.sortedAll_old) (Nat.le_succ _) ⟨hl2, out, ep, hv, he'⟩, rfl, q _ _ (fun G hG => ?_) (I.hok.fresh (Nat.le_succ _))⟩
    rw [← em]
    exact RdL.of_pairs fun p hm => hG.zip p (hp p hm)
def kSortT : List Rv → (Rv → Prop) → Prop := fun rs κ => match rs with
  | [.v (.tup ds)] => SrtOk ds ∧ ds.length ≤ sizeLine ∧ κ (.n (sortD ds))
  | _ => False
theorem opa_sortT : OpA K (rSortDT K) kSortT := by
  intro H0 G Hs H rs vs Q κ s s0 sh h k q
  unfold kSortT at k
  split at k
  · rename_i ds
    obtain ⟨v, rfl, h1⟩ := rvs1 h
    have h1 : RdD K G (.tup ds) v := h1
    unfold RdD at h1
    obtain ⟨l, us, rfl, b, c⟩ := h1
    refine ⟨l, ds, us, rfl, SqT.of (s _ _ b), c.mono s, k.1, k.2.1, fun ys p hy np => ?_⟩
    exact q _ _ _ (.n (sortD ds)) (Ext.newH s np) ⟨p, ys, rfl, upd_same, hy G c, np, s.free np⟩ k.2.2
  · exact k.elim
def dSortedT (a : DE) : DE := dB kSortT (aCons a aNil)
section
variable {X : Cx} {W : WX} {p pos : Pos} {e : Expr} {d : DE}
theorem me_sortedT {k : Nat} (C : Cn X W k) (hm : X.mg "sorted" = none) (h : ME X W e d) (hg : Gl X "sorted" := by rfl) (he : starEach [e] X.env = (false, eval e X.env) :: starEach [] X.env := by rfl) (hpl : (backTo pos (starEach [] X.env)).any (·.1) = false := by rfl) : ME X W (.Call (.Name "sorted" p) [e] [] pos) (dSortedT d) :=
  me_B (cr_sortDT (Room.u66 C.hr)) opa_sortT (by decide +kernel) hm (ma_cons h ma_nil he) hg (by decide) (by decide) he hpl
end
end DL
/-! tables of sets with any mask whose round meets every slot -/
namespace L2
open PySem PySem.Spec PyProof.Rows
/-- the slots met in f steps from x on, as a number's bits -/
def metBits (m : Nat) : Nat → Nat → Nat → Nat
  | 0, _, acc => acc
  | f + 1, x, acc => metBits m f ((x * 5 + 1) % (m + 1)) (acc ||| 2 ^ x)
theorem metBits_bit (m : Nat) : ∀ (f x acc j : Nat), (metBits m f x acc).testBit j = true → acc.testBit j = true ∨ ∃ k, k < f ∧ lcgI m x k = j
  | 0, _, _, _, h => .inl h
  | f + 1, x, acc, j, h => by
    have shift : ∀ k, lcgI m ((x * 5 + 1) % (m + 1)) k = lcgI m x (k + 1) := fun k => by
      induction k with
      | zero => rfl
      | succ k ih =>
        show (lcgI m ((x * 5 + 1) % (m + 1)) k * 5 + 1) % (m + 1) = (lcgI m x (k + 1) * 5 + 1) % (m + 1)
        rw [ih]
    rcases metBits_bit m f _ _ j h with h | ⟨k, hk, e⟩
    · rw [Nat.testBit_or, Bool.or_eq_true, Nat.testBit_two_pow] at h
      rcases h with h | h
      · exact .inl h
      · exact .inr ⟨0, by omega, of_decide_eq_true h⟩
    · exact .inr ⟨k + 1, by omega, by rw [← shift]; exact e⟩
/-- from any slot the round meets every slot -/
structure RdM (m : Nat) : Prop where
  odd : m % 2 = 1
  le : m ≤ 2047
  all : ∀ i j, i ≤ m → j ≤ m → ∃ k, k ≤ m ∧ lcgI m i k = j
theorem lcgI_zero (m : Nat) : ∀ k, lcgI m 0 k = lcgN m k
  | 0 => rfl
  | k + 1 => by
    show (lcgI m 0 k * 5 + 1) % (m + 1) = (lcgN m k * 5 + 1) % (m + 1)
    rw [lcgI_zero m k]
theorem RdM.of {m : Nat} (o : m % 2 = 1) (l : m ≤ 2047) (c : metBits m (m + 1) 0 0 = 2 ^ (m + 1) - 1) (z : lcgN m (m + 1) = 0) : RdM m := by
  have from0 : ∀ j, j ≤ m → ∃ k, k ≤ m ∧ lcgN m k = j := fun j hj => by
    have h : (metBits m (m + 1) 0 0).testBit j = true := by
      rw [c, Nat.testBit_two_pow_sub_one]
      exact decide_eq_true (by omega)
    rcases metBits_bit m _ _ _ _ h with h | ⟨k, hk, e⟩
    · rw [Nat.zero_testBit] at h; exact nomatch h
    · exact ⟨k, by omega, by rw [← lcgI_zero]; exact e⟩
  have again : ∀ k, lcgN m (m + 1 + k) = lcgN m k := fun k => by
    induction k with
    | zero => exact z
    | succ k ih =>
      show (lcgN m (m + 1 + k) * 5 + 1) % (m + 1) = (lcgN m k * 5 + 1) % (m + 1)
      rw [ih]
  refine ⟨o, l, fun i j hi hj => ?_⟩
  obtain ⟨a, ha, rfl⟩ := from0 i hi
  obtain ⟨b, hb, rfl⟩ := from0 j hj
  by_cases h : a ≤ b
  · exact ⟨b - a, by omega, by rw [lcgN_add, show a + (b - a) = b by omega]⟩
  · exact ⟨m + 1 + b - a, by omega, by rw [lcgN_add, show a + (m + 1 + b - a) = m + 1 + b by omega, again]⟩
theorem rd7 : RdM 7 := .of rfl (by decide) (by decide +kernel) (by decide +kernel)
theorem rd31 : RdM 31 := .of rfl (by decide) (by decide +kernel) (by decide +kernel)
theorem rd127 : RdM 127 := .of rfl (by decide) (by decide +kernel) (by decide +kernel)
theorem rd511 : RdM 511 := .of rfl (by decide) (by decide +kernel) (by decide +kernel)
theorem rd2047 : RdM 2047 := .of rfl (by decide) (by decide +kernel) (by decide +kernel)
/-- each slot is met within the search's bound -/
theorem RdM.meets {m : Nat} (R : RdM m) (h : Int) {j : Nat} (hj : j ≤ m) : ∃ n, n ≤ m + 12 ∧ runI m (SetTable.bits h) n = j := by
  obtain ⟨k, hk, e⟩ := R.all (runI m (SetTable.bits h) 12) j (runI_le _ _ _) hj
  exact ⟨12 + k, by omega, (runI_tail (bits_lt h) k).trans e⟩
theorem RdM.comes {m : Nat} (R : RdM m) (h : Int) {j : Nat} (hj : j ≤ m) : ∃ k, k < 10 * SetTable.turns m ∧ way m h k = j := by
  obtain ⟨n, hn, e⟩ := R.meets h hj
  obtain ⟨k, hk, e2⟩ := run_nth m (SetTable.bits h) n
  refine ⟨k, by unfold SetTable.turns; omega, ?_⟩
  show (nth m _ k).j = j
  rw [e2]
  exact e
theorem way_in (m : Nat) (h : Int) (k : Nat) : way m h k ≤ m := by
  have b : SetTable.bits h % (m + 1) ≤ m := Nat.le_of_lt_succ (Nat.mod_lt _ (Nat.succ_pos m))
  have e := runEnd_bd b
  have := nth_in (m := m) k (runAt m (SetTable.bits h % (m + 1)) (SetTable.bits h)) (by show SetTable.bits h % (m + 1) + (SetTable.runEnd m (SetTable.bits h % (m + 1)) - SetTable.bits h % (m + 1)) ≤ m; omega)
  show (nth m _ k).j ≤ m
  omega
end L2
/-! a table whose elements all are found from their hashes; one more put in -/
namespace L2
open PySem PySem.Spec PyProof.Rows
/-- the elements' hashes hs, in the table's order -/
structure TbR (t : SetTable) (hs : List Int) : Prop where
  asc : Ris t.place.toList
  dum : t.dummies = #[]
  len : t.place.size = hs.length
  rnd : RdM t.mask
  ins : ∀ x ∈ t.place.toList, x ≤ t.mask
  got : ∀ (i : Nat) (h : Int) (j : Nat), hs[i]? = some h → t.place.toList[i]? = some j → ∃ k, way t.mask h k = j ∧ ∀ c, c < k → way t.mask h c ∈ t.place.toList
theorem TbR.lenL {t : SetTable} {hs : List Int} (T : TbR t hs) : t.place.toList.length = hs.length := (Array.length_toList).trans T.len
/-- where a search for h ends -/
def EndAt (t : SetTable) (h : Int) (K : Nat) : Prop := way t.mask h K ∉ t.place.toList ∧ ∀ c, c < K → way t.mask h c ∈ t.place.toList
theorem TbR.stop {t : SetTable} {hs : List Int} (T : TbR t hs) (room : hs.length ≤ t.mask) (h : Int) : ∃ K, K < 10 * SetTable.turns t.mask ∧ EndAt t h K := by
  have l := T.lenL
  obtain ⟨j, hj, out⟩ := st_missing t.place.toList (t.mask + 1) (by omega)
  obtain ⟨k, hk, e⟩ := T.rnd.comes h (show j ≤ t.mask by omega)
  obtain ⟨K, le, no, first⟩ := st_least (p := fun c => way t.mask h c ∉ t.place.toList) k (e ▸ out)
  exact ⟨K, by omega, no, fun c hc => Classical.not_not.mp (first c hc)⟩
/-- what has the hash lies ahead of the end -/
theorem TbR.ahead {t : SetTable} {hs : List Int} (T : TbR t hs) {h : Int} {K i j : Nat} (E : EndAt t h K) (hi : hs[i]? = some h) (hj : t.place.toList[i]? = some j) : ∃ k, k < K ∧ way t.mask h k = j := by
  obtain ⟨k, e, b⟩ := T.got i h j hi hj
  rcases Nat.lt_or_ge k K with c | c
  · exact ⟨k, c, e⟩
  · refine absurd ?_ E.1
    by_cases z : K = k
    · rw [z, e]; exact List.mem_of_getElem? hj
    · exact b K (by omega)
/-- put in at the end of its search -/
theorem TbR.more {t : SetTable} {hs : List Int} (T : TbR t hs) {h : Int} {K : Nat} (E : EndAt t h K) {p : Nat} (hp : p = SetTable.below t.place (way t.mask h K)) :
    p ≤ hs.length ∧ TbR (t.put (way t.mask h K)).1 (hs.take p ++ h :: hs.drop p) ∧ (t.put (way t.mask h K)).1.fill = hs.length + 1 := by
  subst hp
  have wl : way t.mask h K ≤ t.mask := way_in _ _ _
  generalize hw : way t.mask h K = j at *
  have out : j ∉ t.place.toList := hw ▸ E.1
  obtain ⟨c1, _, _⟩ := below_cut T.asc j
  have c2 : SetTable.below t.place j ≤ t.place.toList.length := by rw [Array.length_toList]; exact c1
  have c3 : SetTable.below t.place j ≤ hs.length := T.lenL ▸ c2
  have pl := put_place t j
  have keep : ∀ x, x ∈ t.place.toList → x ∈ (t.put j).1.place.toList := fun x hx => by rw [pl]; exact mem_ins.mpr (.inr hx)
  have sz : (t.put j).1.place.size = hs.length + 1 := by rw [← Array.length_toList, pl, len_ins _ c2, T.lenL]
  refine ⟨c3, ⟨ris_insert T.asc fun e => out (List.mem_of_getElem? (by rw [Array.getElem?_toList]; exact e)), put_dm T.dum j, by rw [sz, len_ins _ c3], T.rnd, fun x hx => ?_, fun i h' j' hi hj => ?_⟩, ?_⟩
  · rw [pl] at hx
    rcases mem_ins.mp hx with rfl | hx
    · exact wl
    · exact T.ins x hx
  · rw [pl, tins_get _ c2] at hj
    rw [tins_get _ c3] at hi
    have old : ∀ n : Nat, hs[n]? = some h' → t.place.toList[n]? = some j' → ∃ k, way t.mask h' k = j' ∧ ∀ c, c < k → way t.mask h' c ∈ (t.put j).1.place.toList := fun n a b => by
      obtain ⟨k, e, z⟩ := T.got n h' j' a b
      exact ⟨k, e, fun c hc => keep _ (z c hc)⟩
    show ∃ k, way t.mask h' k = j' ∧ ∀ c, c < k → way t.mask h' c ∈ (t.put j).1.place.toList
    rcases Nat.lt_trichotomy i (SetTable.below t.place j) with z | z | z
    · rw [if_pos z] at hi hj
      exact old i hi hj
    · rw [if_neg (by omega), if_pos z] at hi hj
      cases hi; cases hj
      exact ⟨K, hw, fun c hc => keep _ (E.2 c hc)⟩
    · rw [if_neg (by omega), if_neg (by omega)] at hi hj
      exact old _ hi hj
  · show (t.put j).1.place.size + (t.put j).1.dummies.size = hs.length + 1
    rw [sz, put_dm T.dum j]; rfl
end L2
/-! a table laid anew under a mask whose round meets every slot -/
namespace L2
open PySem PySem.Spec PyProof.Rows
/-- where nobody sits for the first time -/
theorem RdM.room {m : Nat} (R : RdM m) (ow : Array (Option Nat)) (h : Int) {j : Nat} (hj : j ≤ m) (e : oAt ow j = none) :
    ∃ K, SetTable.layClean.free m ow (SetTable.turns m) (SetTable.bits h % (m + 1)) (SetTable.bits h) = some (way m h K) ∧ oAt ow (way m h K) = none ∧ ∀ c, c < K → oAt ow (way m h c) ≠ none := by
  obtain ⟨n, hn, en⟩ := R.meets h hj
  have at_n : way m h (off m (SetTable.bits h % (m + 1)) (SetTable.bits h) n) = j := by
    have e1 := nth_off m n (SetTable.bits h % (m + 1)) (SetTable.bits h)
    rw [itL_run] at e1
    exact (congrArg SetTable.Probe.j e1).trans en
  obtain ⟨K, le, free, first⟩ := st_least (p := fun c => oAt ow (way m h c) = none) _ (at_n ▸ e)
  have some_of : ∀ x : Option Nat, x ≠ none → x.isNone = false := fun x hx => by
    cases x with
    | none => exact absurd rfl hx
    | some _ => rfl
  refine ⟨K, free_spec m ow (SetTable.turns m) n _ _ K (by unfold SetTable.turns; omega) le (fun c hc => some_of _ (first c hc)) ?_, free, first⟩
  have f : oAt ow (nth m (runAt m (SetTable.bits h % (m + 1)) (SetTable.bits h)) K).j = none := free
  rw [f]; rfl
/-- one more is seated -/
theorem RdM.seat {m : Nat} (R : RdM m) {done : List Int} {ow : Array (Option Nat)} (W : Own m done ow) (l : done.length ≤ m) (h : Int) :
    ∃ j, SetTable.layClean.free m ow (SetTable.turns m) (SetTable.bits h % (m + 1)) (SetTable.bits h) = some j ∧ Own m (done ++ [h]) (ow.setIfInBounds j (some done.length)) := by
  obtain ⟨ps, lp, mp⟩ := W.ps
  obtain ⟨q, hq, nq⟩ := st_missing ps (m + 1) (by omega)
  have free : oAt ow q = none := Classical.byContradiction fun z => nq (mp q (by omega) z)
  obtain ⟨K, e, eK, b⟩ := R.room ow h (show q ≤ m by omega) free
  have le : way m h K ≤ m := way_in _ _ _
  refine ⟨_, e, ?_⟩
  generalize hj : way m h K = j at *
  have self : oAt (ow.setIfInBounds j (some done.length)) j = some done.length := oAt_set_self _ (by rw [W.sz]; omega)
  have other : ∀ i, i ≠ j → oAt (ow.setIfInBounds j (some done.length)) i = oAt ow i := fun i => oAt_set_ne _
  have stays : ∀ i, oAt ow i ≠ none → oAt (ow.setIfInBounds j (some done.length)) i ≠ none := fun i hi => by
    by_cases z : i = j
    · rw [z, self]; exact Option.some_ne_none _
    · rw [other i z]; exact hi
  constructor
  · rw [Array.size_setIfInBounds]; exact W.sz
  · intro i k hi e
    by_cases z : i = j
    · rw [z, self] at e
      cases e
      exact ⟨h, K, by simp, hj.trans z.symm, fun c hc => stays _ (b c hc)⟩
    · rw [other i z] at e
      obtain ⟨h', K', a1, a2, a3⟩ := W.at_ i k hi e
      refine ⟨h', K', ?_, a2, fun c hc => stays _ (a3 c hc)⟩
      rw [List.getElem?_append_left (List.getElem?_eq_some_iff.mp a1).1]
      exact a1
  · intro k hk
    rw [List.length_append, List.length_singleton] at hk
    rcases Nat.lt_or_ge k done.length with z | z
    · obtain ⟨i, hi, e'⟩ := W.all k z
      refine ⟨i, hi, ?_⟩
      rw [other i fun y => by rw [y, eK] at e'; exact nomatch e']
      exact e'
    · obtain rfl : k = done.length := by omega
      exact ⟨j, le, self⟩
  · refine ⟨j :: ps, by rw [List.length_cons, List.length_append, lp]; rfl, fun i hi e' => ?_⟩
    by_cases z : i = j
    · rw [z]; exact List.mem_cons_self
    · rw [other i z] at e'
      exact List.mem_cons_of_mem _ (mp i hi e')
theorem RdM.seats {m : Nat} (R : RdM m) : ∀ (more done : List Int) (ow : Array (Option Nat)), Own m done ow → done.length + more.length ≤ m →
    ∃ ow', more.foldl (stepF m) (some (ow, done.length)) = some (ow', done.length + more.length) ∧ Own m (done ++ more) ow'
  | [], done, ow, W, _ => ⟨ow, rfl, by rw [List.append_nil]; exact W⟩
  | h :: more, done, ow, W, l => by
    have lc := List.length_cons (a := h) (as := more)
    obtain ⟨j, e, W1⟩ := R.seat W (by omega) h
    have l1 : (done ++ [h]).length = done.length + 1 := by rw [List.length_append]; rfl
    obtain ⟨ow', f, W2⟩ := R.seats more (done ++ [h]) _ W1 (by omega)
    rw [l1] at f
    refine ⟨ow', ?_, by rw [List.append_assoc] at W2; exact W2⟩
    rw [List.foldl_cons, stepF_some e, f, lc, show done.length + 1 + more.length = done.length + (more.length + 1) by omega]
theorem RdM.lay {m : Nat} (R : RdM m) {hs : Array Int} (l : hs.size ≤ m) : ∃ ow, SetTable.layClean m hs = some ow ∧ Own m hs.toList ow := by
  obtain ⟨ow, f, W⟩ := R.seats hs.toList [] _ (Own.init m) (by rw [Array.length_toList]; show 0 + hs.size ≤ m; omega)
  refine ⟨ow, ?_, W⟩
  have f' : hs.toList.foldl (stepF m) (some (Array.replicate (m + 1) none, 0)) = _ := f
  rw [layClean_eq, f']
  rfl
end L2
/-! the table laid anew is one found from its hashes -/
namespace L2
open PySem PySem.Spec PyProof.Rows
theorem RdM.anew {M : Nat} (R : RdM M) (t : SetTable) {hs : Array Int} {wanted : Nat} (hw : SetTable.sizeAbove wanted - 1 = M) (hn : hs.size ≤ M) :
    ∃ (t' : SetTable) (order : Array Nat), t.relaid hs wanted = some (t', order) ∧ order.toList.Perm (List.range hs.size) ∧ TbR t' (order.toList.map fun i => hs.getD i 0) ∧ t'.mask = M ∧ t'.led = t.led ∧ t'.plain = t.plain := by
  obtain ⟨ow, e, W⟩ := R.lay hn
  have eq : t.relaid hs wanted = some (tabOf t M ow, ((liveOf M ow).map (·.2)).toArray) := by rw [relaid_eq, hw, e]; rfl
  obtain ⟨asc, sub⟩ : Ris ((liveOf M ow).map (·.1)) ∧ ∀ x ∈ (liveOf M ow).map (·.1), x ∈ List.range (M + 1) := ris_live (fun j => ow.getD j none) (List.range (M + 1)) List.pairwise_lt_range
  have live := @mem_live M ow W.sz
  have place : ∀ {j k}, j ≤ M → oAt ow j = some k → j ∈ (liveOf M ow).map (·.1) := fun {j k} h1 h2 => List.mem_map.mpr ⟨(j, k), live.mpr ⟨h1, h2⟩, rfl⟩
  have num : ∀ k, k < hs.size → k ∈ (liveOf M ow).map (·.2) := fun k hk => by
    obtain ⟨j, h1, h2⟩ := W.all k (by rw [Array.length_toList]; exact hk)
    exact List.mem_map.mpr ⟨(j, k), live.mpr ⟨h1, h2⟩, rfl⟩
  have many : (liveOf M ow).length = hs.size := by
    obtain ⟨ps, lp, mp⟩ := W.ps
    have a : ((liveOf M ow).map (·.1)).length ≤ ps.length := nat_nodup_len _ ps (List.Pairwise.imp (fun h => Nat.ne_of_lt h) asc) fun x hx => by
      obtain ⟨⟨y, k⟩, hq, rfl⟩ := List.mem_map.mp hx
      have := live.mp hq
      exact mp y this.1 (by rw [this.2]; exact Option.some_ne_none _)
    have b : (List.range hs.size).length ≤ ((liveOf M ow).map (·.2)).length := nat_nodup_len _ _ List.nodup_range fun k hk => num k (List.mem_range.mp hk)
    have hz : hs.toList.length = hs.size := Array.length_toList
    rw [List.length_map, lp] at a
    rw [List.length_map, List.length_range] at b
    omega
  refine ⟨_, _, eq, perm_range _ _ (by show ((liveOf M ow).map (·.2)).length = _; rw [List.length_map, many]) num, ⟨asc, rfl, ?_, R, fun x hx => ?_, fun i h j hi hj => ?_⟩, rfl, rfl, rfl⟩
  · show ((liveOf M ow).map (·.1)).toArray.size = (((liveOf M ow).map (·.2)).map _).length
    rw [List.size_toArray, List.length_map, List.length_map, List.length_map]
  · have := List.mem_range.mp (sub x hx)
    show x ≤ M
    omega
  · have hi : (((liveOf M ow).map (·.2)).map fun i => hs.getD i 0)[i]? = some h := hi
    have hj : ((liveOf M ow).map (·.1))[i]? = some j := hj
    rw [List.map_map, List.getElem?_map] at hi
    rw [List.getElem?_map] at hj
    obtain ⟨⟨y, k⟩, hq, e1⟩ := Option.map_eq_some_iff.mp hj
    rw [hq] at hi
    have e2 : hs.getD k 0 = h := Option.some.inj hi
    have e1 : y = j := e1
    subst e1
    obtain ⟨h1, h2⟩ := live.mp (List.mem_of_getElem? hq)
    obtain ⟨g, K, a1, a2, a3⟩ := W.at_ y k h1 h2
    have e3 : hs.getD k 0 = g := by rw [Array.getD_eq_getD_getElem?, ← Array.getElem?_toList, a1]; rfl
    rw [← e2, e3]
    refine ⟨K, a2, fun c hc => ?_⟩
    show way M g c ∈ (liveOf M ow).map (·.1)
    cases z : oAt ow (way M g c) with
    | none => exact absurd z (a3 c hc)
    | some n => exact place (way_in _ _ _) z
/-- how large a table laid anew is -/
theorem anew5 : SetTable.sizeAbove (SetTable.grown 5) = 32 := by decide +kernel
theorem anew19 : SetTable.sizeAbove (SetTable.grown 19) = 128 := by decide +kernel
theorem anew77 : SetTable.sizeAbove (SetTable.grown 77) = 512 := by decide +kernel
theorem anew307 : SetTable.sizeAbove (SetTable.grown 307) = 2048 := by decide +kernel
end L2
/-! a set of many tuples of ints: the search -/
namespace L2
open PySem PySem.Spec PyProof.Rows
/-- the masks that a set grows through -/
def MkS (m : Nat) : Prop := m = 7 ∨ m = 31 ∨ m = 127 ∨ m = 511 ∨ m = 2047
theorem MkS.rd {m : Nat} (h : MkS m) : RdM m := by
  rcases h with rfl | rfl | rfl | rfl | rfl
  · exact rd7
  · exact rd31
  · exact rd127
  · exact rd511
  · exact rd2047
theorem MkS.turns {m : Nat} (h : MkS m) : 10 * SetTable.turns m < 90000 := by
  rcases h with rfl | rfl | rfl | rfl | rfl <;> decide +kernel
section
variable {P : Program} {w : World} {A : Around} {E : Value → Shared → Prop} {s : Shared}
/-- the set at a has the tuples L, in its own order -/
structure StR (P : Program) (w : World) (h : Heap) (a : Addr) (L : List (Addr × List Int)) (es : Array (Int × Value)) (ep : Nat) (t : SetTable) : Prop where
  ob : ∃ o, h.get? a = some o ∧ o.ExactSet ∧ o.data = .set es ep t
  rows : es.toList = rowsOf P w L
  tab : TbR t (L.map fun p => thash P w p.2)
  nd : (L.map (·.2)).Nodup
  tup : ∀ p ∈ L, IsT P w h p.2 p.1
  plain : t.plain = true
  led : w.params.followText "set-order" = true ∨ t.led = true
  room : L.length * 5 < t.mask * 3
  mask : MkS t.mask
variable {a : Addr} {L : List (Addr × List Int)} {es : Array (Int × Value)} {ep : Nat} {t : SetTable}
theorem rows_size {L : List (Addr × List Int)} {es : Array (Int × Value)} (h : es.toList = rowsOf P w L) : es.size = L.length := by
  rw [← Array.length_toList, h]
  exact List.length_map ..
theorem fits_of {t : SetTable} {n : Nat} (d : t.dummies = #[]) (l : t.place.size = n) (r : n ≤ t.mask) : t.fits n = true := by
  unfold SetTable.fits SetTable.fill
  rw [d, l]
  simp [r]
theorem StR.size (R : StR P w s.heap a L es ep t) : es.size = L.length := rows_size R.rows
theorem StR.len (R : StR P w s.heap a L es ep t) : t.place.size = L.length := R.tab.len.trans (List.length_map ..)
theorem StR.fits (R : StR P w s.heap a L es ep t) : t.fits es.size = true := by
  have := R.room
  rw [R.size]
  exact fits_of R.tab.dum R.len (by omega)
theorem StR.sits (R : StR P w s.heap a L es ep t) {i : Nat} {p : Addr × List Int} (h : L[i]? = some p) : es[i]? = some (thash P w p.2, Value.ref p.1) := by
  rw [← Array.getElem?_toList, R.rows]
  unfold rowsOf
  rw [List.getElem?_map, h]
  rfl
theorem StR.whole (R : StR P w s.heap a L es ep t) : ¬ t.gaveWay = true := by
  unfold SetTable.gaveWay
  rw [R.tab.rnd.odd]
  decide
theorem quiet_step {m : Nat} : ∀ (n : Nat) (p : SetTable.Probe), p.dummy = none → (nth m p n).dummy = none
  | 0, _, h => h
  | n + 1, p, h => quiet_step n (adv m p) (by unfold adv; split <;> exact h)
/-- the search's c-th step -/
def stp0 (t : SetTable) (h : Int) (c : Nat) : SetTable.Probe := nth t.mask (runAt t.mask (SetTable.bits h % (t.mask + 1)) (SetTable.bits h)) c
theorem stp0_add (t : SetTable) (h : Int) (c q : Nat) : nth t.mask (stp0 t h c) q = stp0 t h (c + q) := (nth_add t.mask c _ q).symm
theorem stp0_j (t : SetTable) (h : Int) (c : Nat) : (stp0 t h c).j = way t.mask h c := rfl
theorem StR.seek (R : StR P w s.heap a L es ep t) {x : Addr} {k : List Int} (hx : IsT P w s.heap k x) (hu : A.units < cLine) {K : Nat} (fK : K < 10 * SetTable.turns t.mask)
    (EK : EndAt t (thash P w k) K) {Q : SetFound → Shared → Prop} (hin : k ∈ L.map (·.2) → Q (.there none) s) (hout : k ∉ L.map (·.2) → Q (.free (way t.mask (thash P w k) K) false) s) :
    ∀ (f c : Nat) (from_ : Option SetTable.Probe), from_.getD (t.probeStart (thash P w k)) = stp0 t (thash P w k) c → c ≤ K → K - c < f →
      (∀ (i : Nat) p, L[i]? = some p → p.2 = k → ∃ c', c ≤ c' ∧ c' < K ∧ t.place.toList[i]? = some (way t.mask (thash P w k) c')) →
      wpAny (model P w) A (setSearchFrom a (.ref x) (thash P w k) true f from_) Q E s
  | 0, _, _, _, _, hf, _ => absurd hf (Nat.not_lt_zero _)
  | f + 1, c, from_, st, hc, hf, left => by
    obtain ⟨o, ho, _, hd⟩ := R.ob
    generalize hH : thash P w k = H at *
    rw [setSearchFrom_succ]
    refine wpAny_bind (wpAny_setState_of ho hd R.fits ?_)
    dsimp only
    refine wp_if_neg R.whole ?_
    try refine wpAny_bind (wpAny_pure ?_)
    have jq : ∀ q, (nth t.mask (stp0 t H c) q).j = way t.mask H (c + q) := fun q => congrArg SetTable.Probe.j (stp0_add t H c q)
    have cK : c + (K - c) = K := by omega
    have hashAt : ∀ (i : Nat) p, L[i]? = some p → (es[i]?.map (·.1)).getD 0 = thash P w p.2 := fun i p hp => by rw [R.sits hp]; rfl
    rcases go_spec t R.tab.asc R.tab.dum (fun i => (es[i]?.map (·.1)).getD 0) H (10 * SetTable.turns t.mask) (K - c) (stp0 t H c) (quiet_step c _ rfl) (by omega)
      (fun q hq => by rw [jq]; exact EK.2 _ (by omega)) (by rw [jq, cK]; exact EK.1) with ⟨q, i, hq, hi, hh, before, found⟩ | ⟨none_, found⟩
    · rw [jq] at hi
      have pr : t.probe (fun i => (es[i]?.map (·.1)).getD 0) H (from_.getD (t.probeStart H)) = some (.candidate (way t.mask H (c + q)) i (stp0 t H (c + (q + 1)))) := by
        rw [st, ← jq q, ← stp0_add]
        exact found
      rw [pr]
      dsimp only
      have il : i < L.length := by
        have h1 := (List.getElem?_eq_some_iff.mp hi).1
        rw [Array.length_toList, R.len] at h1
        exact h1
      obtain ⟨p, hp⟩ : ∃ p, L[i]? = some p := ⟨_, List.getElem?_eq_getElem il⟩
      have pm : p ∈ L := List.mem_of_getElem? hp
      have live := slot_live R.tab.asc hi
      have rest : wpAny (model P w) A (searchRest a (.ref x) H true f es t (way t.mask H (c + q)) i (stp0 t H (c + (q + 1)))) Q E s := by
        unfold searchRest
        rw [R.sits hp]
        dsimp only
        refine wpAny_bind (wpAny_holding (wpAny_eqBool_tuple hu (R.tup p pm) hx ?_))
        refine wpAny_bind (wpAny_setState_of ho hd R.fits ?_)
        dsimp only
        by_cases same : p.2 = k
        · exact wp_if_pos (by simp [same]) (wpAny_pure (hin (List.mem_map.mpr ⟨p, pm, same⟩)))
        · refine wp_if_neg (by simp [same]) ?_
          try refine wpAny_bind (wpAny_pure ?_)
          rw [sameMem]
          dsimp only
          simp only [if_true, live, R.sits hp]
          refine wpAny_bind (wpAny_isSame_ref_self (wpAny_bind (wpAny_pure ?_)))
          simp only [if_true]
          refine wp_if_neg (by simp [same]) ?_
          subst hH
          refine R.seek hx hu fK EK hin hout f (c + (q + 1)) _ rfl (by omega) (by omega) fun i' p' hp' ek => ?_
          obtain ⟨c', g1, g2, g3⟩ := left i' p' hp' ek
          refine ⟨c', ?_, g2, g3⟩
          rcases Nat.lt_trichotomy c' (c + q) with z | z | z
          · refine absurd ((hashAt i' p' hp').trans (congrArg (thash P w) ek)) (before (c' - c) i' (by omega) ?_)
            rw [jq, show c + (c' - c) = c' by omega]
            exact g3
          · rw [z] at g3
            have e := slot_live R.tab.asc g3
            rw [live] at e
            cases e
            rw [hp] at hp'
            cases hp'
            exact absurd ek same
          · omega
      by_cases hl : t.led = true
      · refine wp_if_neg (by simp [hl]) ?_
        try refine wpAny_bind (wpAny_pure ?_)
        exact rest
      · refine wp_if_pos (by simp [hl]) ?_
        refine wpAny_bind (seen_tup hx (fun y hy => ?_) ?_)
        · obtain ⟨e, he, rfl⟩ := List.mem_map.mp hy
          have he : e ∈ es.toList := by
            have := Array.mem_toList_iff.mp he
            exact Array.mem_toList_iff.mpr (Array.mem_filter.mp this).1
          rw [R.rows] at he
          obtain ⟨p2, hp2, rfl⟩ := List.mem_map.mp he
          exact ⟨p2.2, p2.1, rfl, R.tup p2 hp2⟩
        · refine wp_if_neg (by decide) ?_
          try refine wpAny_bind (wpAny_pure ?_)
          exact rest
    · have pr : t.probe (fun i => (es[i]?.map (·.1)).getD 0) H (from_.getD (t.probeStart H)) = some (.empty (way t.mask H K) none) := by
        have e := jq (K - c)
        rw [cK] at e
        rw [st, ← e]
        exact found
      rw [pr]
      dsimp only
      refine wpAny_pure (hout fun hm => ?_)
      obtain ⟨p, pm, ek⟩ := List.mem_map.mp hm
      obtain ⟨i, hi⟩ := List.mem_iff_getElem?.mp pm
      obtain ⟨c', g1, g2, g3⟩ := left i p hi ek
      refine none_ (c' - c) i (by omega) ?_ ((hashAt i p hi).trans ((congrArg (thash P w) ek).trans hH))
      rw [jq, show c + (c' - c) = c' by omega]
      exact g3
end
end L2
/-! a set of many tuples of ints: one more added -/
namespace L2
open PySem PySem.Spec PyProof.Rows
section
variable {P : Program} {w : World} {A : Around} {E : Value → Shared → Prop} {s : Shared}
variable {a : Addr} {L : List (Addr × List Int)} {es : Array (Int × Value)} {ep : Nat} {t : SetTable}
theorem StR.find (R : StR P w s.heap a L es ep t) {x : Addr} {k : List Int} (hx : IsT P w s.heap k x) (hu : A.units < cLine) {Q : SetFound → Shared → Prop}
    (hin : k ∈ L.map (·.2) → Q (.there none) s) (hout : ∀ K, k ∉ L.map (·.2) → EndAt t (thash P w k) K → Q (.free (way t.mask (thash P w k) K) false) s) :
    wpAny (model P w) A (setSearch a (.ref x) (thash P w k) true) Q E s := by
  have room := R.room
  obtain ⟨K, fK, EK⟩ := R.tab.stop (by rw [List.length_map]; omega) (thash P w k)
  have big := R.mask.turns
  unfold setSearch
  refine R.seek hx hu fK EK hin (fun h => hout K h EK) 100000 0 none rfl (Nat.zero_le _) (by omega) fun i p hp ek => ?_
  have il : i < t.place.toList.length := by
    have := (List.getElem?_eq_some_iff.mp hp).1
    rw [Array.length_toList, R.len]
    exact this
  obtain ⟨c, hc, e⟩ := R.tab.ahead (i := i) EK (by rw [List.getElem?_map, hp, ← ek]; rfl) (List.getElem?_eq_getElem il)
  exact ⟨c, Nat.zero_le _, hc, by rw [List.getElem?_eq_getElem il, e]⟩
/-- laid anew -/
theorem relayR {o : Obj} (ho : s.heap.get? a = some o) (hex : o.ExactSet) (hd : o.data = .set es ep t) (rows : es.toList = rowsOf P w L) (ln : t.place.size = L.length) (dm : t.dummies = #[]) (rm : L.length ≤ t.mask)
    (nd : (L.map (·.2)).Nodup) (tup : ∀ p ∈ L, IsT P w s.heap p.2 p.1) (pl : t.plain = true) (ld : w.params.followText "set-order" = true ∨ t.led = true) {wanted M : Nat}
    (hw : SetTable.sizeAbove wanted = M + 1) (hM : MkS M) (hn : L.length * 5 < M * 3) {Q : Unit → Shared → Prop}
    (hQ : ∀ h' L' es' ep' t', Heap.SameBut a s.heap h' → StR P w h' a L' es' ep' t' → L'.Perm L → Q () { s with heap := h' }) : wpAny (model P w) A (setRelay a wanted) Q E s := by
  have sz := rows_size rows
  have M1 := hM.rd.le
  obtain ⟨t', order, e, pm, T, em, el, ep'⟩ := hM.rd.anew t (hs := es.map (·.1)) (wanted := wanted) (by rw [hw]; rfl) (by rw [Array.size_map, sz]; omega)
  rw [Array.size_map, sz] at pm
  obtain ⟨L', r1, r2, r3⟩ := order_rows L es order rows pm
  rw [← r3] at T
  have sz2 : (order.filterMap (es[·]?)).size = es.size := by rw [rows_size r1, r2.length_eq, sz]
  rw [setRelay_eq]
  refine wpAny_bind (wpAny_setState_of ho hd (by rw [sz]; exact fits_of dm ln rm) ?_)
  dsimp only
  refine wp_if_neg (by rw [sizeLine_eq]; omega) ?_
  try refine wpAny_bind (wpAny_pure ?_)
  rw [e]
  dsimp only
  refine wpAny_bind ?_
  refine wp_if_neg (by rw [sz2]; simp) ?_
  try refine wpAny_bind (wpAny_pure ?_)
  refine wpAny_pure ?_
  dsimp only
  refine wpAny_storeSet_of ho hd ?_ (by rw [sz2, sz, sizeLine_eq]; omega)
  have but : Heap.SameBut a s.heap (s.heap.update a (Obj.putSet (order.filterMap (es[·]?)) t')) := Heap.SameBut.update ..
  exact hQ _ L' _ (ep + 1) t' but ⟨⟨_, store_at ho hd, ⟨hex.1, hex.2.1, hex.2.2⟩, rfl⟩, r1, T, (r2.map (·.2)).nodup_iff.mpr nd, fun p hp => isT_same (tup p (r2.mem_iff.mp hp)) ho hd but, by rw [ep']; exact pl, by rw [el]; exact ld, by rw [r2.length_eq, em]; exact hn, by rw [em]; exact hM⟩ r2
/-- where a set grows to -/
theorem MkS.grow {m n : Nat} (h : MkS m) (hn : n ≤ 1200) (r : n * 5 < m * 3) (full : (n + 1) * 5 ≥ m * 3) : ∃ M, SetTable.sizeAbove (SetTable.grown (n + 1)) = M + 1 ∧ MkS M ∧ (n + 1) * 5 < M * 3 := by
  rcases h with rfl | rfl | rfl | rfl | rfl
  · obtain rfl : n = 4 := by omega
    exact ⟨31, anew5, .inr (.inl rfl), by decide⟩
  · obtain rfl : n = 18 := by omega
    exact ⟨127, anew19, .inr (.inr (.inl rfl)), by decide⟩
  · obtain rfl : n = 76 := by omega
    exact ⟨511, anew77, .inr (.inr (.inr (.inl rfl))), by decide⟩
  · obtain rfl : n = 306 := by omega
    exact ⟨2047, anew307, .inr (.inr (.inr (.inr rfl))), by decide⟩
  · omega
theorem StR.add (R : StR P w s.heap a L es ep t) {x : Addr} {k : List Int} (hx : IsT P w s.heap k x) (hu : A.units < cLine) (few : L.length ≤ 1200) {Q : Bool → Shared → Prop}
    (hQ : ∀ b h' L' es' ep' t', Heap.SameBut a s.heap h' → StR P w h' a L' es' ep' t' → (k ∈ L.map (·.2) → L' = L) → (k ∉ L.map (·.2) → L'.Perm ((x, k) :: L)) → Q b { s with heap := h' }) :
    wpAny (model P w) A (setAddHashed a (.ref x) (thash P w k)) Q E s := by
  obtain ⟨o, ho, hex, hd⟩ := R.ob
  have sz := R.size
  have room := R.room
  unfold setAddHashed
  refine wpAny_holding ?_
  rw [show (100000 : Nat) = 99999 + 1 from rfl, setAddHashedIn_succ]
  refine wpAny_bind (wpAny_setState_of ho hd R.fits ?_)
  dsimp only
  refine wp_if_neg (by simp [byScan, Value.scannable]) ?_
  try refine wpAny_bind (wpAny_pure ?_)
  refine wpAny_bind (R.find hx hu (fun there => ?_) fun K new EK => ?_)
  · dsimp only
    exact wpAny_pure (hQ false s.heap L es ep t (Heap.SameBut.refl a s.heap) R (fun _ => rfl) fun z => absurd there z)
  dsimp only
  refine wpAny_bind (wpAny_setState_of ho hd R.fits ?_)
  dsimp only
  have pl1 : (t.put (way t.mask (thash P w k) K)).1.plain = true := R.plain
  have ld1 : w.params.followText "set-order" = true ∨ (t.put (way t.mask (thash P w k) K)).1.led = true := R.led
  have mk1 : (t.put (way t.mask (thash P w k) K)).1.mask = t.mask := rfl
  have pe : (t.put (way t.mask (thash P w k) K)).2 = SetTable.below t.place (way t.mask (thash P w k) K) := rfl
  obtain ⟨pb, T1, fl⟩ := R.tab.more EK pe
  generalize t.put (way t.mask (thash P w k) K) = tp at *
  obtain ⟨t1, p⟩ := tp
  dsimp only at pl1 ld1 mk1 pe pb T1 fl ⊢
  clear pe
  rw [List.length_map] at pb fl
  first
    | (refine wpAny_bind ?_; refine wp_if_pos pl1 ?_; refine hashBy_tup hx ?_)
    | refine wp_if_pos pl1 (wpAny_bind (hashBy_tup hx ?_))
  simp only [if_true]
  have rows1 : (SetTable.insertAt es p (thash P w k, Value.ref x)).toList = rowsOf P w (L.take p ++ (x, k) :: L.drop p) := by rw [SetTable.toList_insertAt, rows_put, R.rows]
  have pm := put_perm L p (x, k)
  have hs1 : (L.take p ++ (x, k) :: L.drop p).map (fun q => thash P w q.2) = (L.map fun q => thash P w q.2).take p ++ thash P w k :: (L.map fun q => thash P w q.2).drop p := by rw [List.map_append, List.map_cons, List.map_take, List.map_drop]
  rw [← hs1] at T1
  generalize SetTable.insertAt es p (thash P w k, Value.ref x) = es1 at *
  generalize L.take p ++ (x, k) :: L.drop p = L1 at *
  have ln1 : L1.length = L.length + 1 := pm.length_eq
  have nd1 : (L1.map (·.2)).Nodup := (pm.map (·.2)).nodup_iff.mpr (List.nodup_cons.mpr ⟨new, R.nd⟩)
  have sz1 : es1.size = L.length + 1 := (rows_size rows1).trans ln1
  refine wpAny_bind (wpAny_storeSet_of ho hd ?_ (by rw [sz1, sizeLine_eq]; omega))
  have but : Heap.SameBut a s.heap (s.heap.update a (Obj.putSet es1 t1)) := Heap.SameBut.update ..
  have ho1 := store_at (es' := es1) (t' := t1) ho hd
  generalize s.heap.update a (Obj.putSet es1 t1) = h1 at *
  have tup1 : ∀ q ∈ L1, IsT P w h1 q.2 q.1 := fun q hq => by
    rcases List.mem_cons.mp (pm.mem_iff.mp hq) with rfl | hq
    · exact isT_same hx ho hd but
    · exact isT_same (R.tup q hq) ho hd but
  have full : t1.tooFull = decide ((L.length + 1) * 5 ≥ t.mask * 3) := by
    unfold SetTable.tooFull
    rw [fl, mk1]
  by_cases hf : (L.length + 1) * 5 ≥ t.mask * 3
  · first
      | (refine wpAny_bind ?_; refine wp_if_pos (by rw [full]; simp [hf]) ?_)
      | (refine wp_if_pos (by rw [full]; simp [hf]) ?_; refine wpAny_bind ?_)
    obtain ⟨M, g1, g2, g3⟩ := R.mask.grow few room hf
    rw [sz]
    refine relayR (s := { s with heap := h1 }) ho1 ⟨hex.1, hex.2.1, hex.2.2⟩ rfl rows1 (T1.len.trans (List.length_map ..)) T1.dum (by rw [ln1, mk1]; omega) nd1 tup1 pl1 ld1 g1 g2 (by rw [ln1]; exact g3) ?_
    intro h2 L2 es2 ep2 t2 but2 R2 pm2
    exact wpAny_pure (hQ true h2 L2 es2 ep2 t2 (but.trans but2) R2 (fun z => absurd z new) fun _ => pm2.trans pm)
  · first
      | refine wp_if_neg (by rw [full]; simp [hf]) ?_
      | (refine wpAny_bind ?_; refine wp_if_neg (by rw [full]; simp [hf]) ?_; refine wpAny_pure ?_)
    exact wpAny_pure (hQ true h1 L1 es1 (ep + 1) t1 but ⟨⟨_, ho1, ⟨hex.1, hex.2.1, hex.2.2⟩, rfl⟩, rows1, T1, nd1, tup1, pl1, ld1, by rw [ln1, mk1]; omega, by rw [mk1]; exact R.mask⟩ (fun z => absurd z new) fun _ => pm)
end
end L2
/-! set(x) of any many tuples, of which at most 1200 are unlike -/
namespace L2
open PySem PySem.Spec PyProof.Rows
/-- whatever of ks has unlike keys is small -/
def FewOf2 (ks : List (Addr × List Int)) : Prop := ∀ L : List (Addr × List Int), (∀ p ∈ L, p ∈ ks) → (L.map (·.2)).Nodup → L.length ≤ 1200
/-- L: of ks, with each key that the first i have -/
structure Kept2 (ks : List (Addr × List Int)) (i : Nat) (L : List (Addr × List Int)) : Prop where
  sub : ∀ p ∈ L, p ∈ ks
  all : ∀ (j : Nat) (p : Addr × List Int), j < i → ks[j]? = some p → p.2 ∈ L.map (·.2)
theorem Kept2.step {ks L L' : List (Addr × List Int)} {i : Nat} {x : Addr × List Int} (g : Kept2 ks i L) (e : ks[i]? = some x) (same : x.2 ∈ L.map (·.2) → L' = L) (more : x.2 ∉ L.map (·.2) → L'.Perm (x :: L)) : Kept2 ks (i + 1) L' := by
  by_cases c : x.2 ∈ L.map (·.2)
  · rw [same c]
    refine ⟨g.sub, fun j p hj hp => ?_⟩
    by_cases z : j = i
    · subst z; rw [e] at hp; cases hp; exact c
    · exact g.all j p (by omega) hp
  · have pm := more c
    refine ⟨fun p hp => ?_, fun j p hj hp => ?_⟩
    · rcases List.mem_cons.mp (pm.mem_iff.mp hp) with rfl | h
      · exact List.mem_of_getElem? e
      · exact g.sub p h
    · refine (pm.map (·.2)).mem_iff.mpr ?_
      rw [List.map_cons]
      by_cases z : j = i
      · subst z; rw [e] at hp; cases hp; exact List.mem_cons_self
      · exact List.mem_cons_of_mem _ (g.all j p (by omega) hp)
section
variable {P : Program} {w : World}
theorem StR.keep {h h' : Heap} {a : Addr} {L : List (Addr × List Int)} {es : Array (Int × Value)} {ep : Nat} {t : SetTable} (R : StR P w h a L es ep t) (ha : ∀ o, h.get? a = some o → h'.get? a = some o) (ht : ∀ p ∈ L, IsT P w h' p.2 p.1) : StR P w h' a L es ep t := by
  obtain ⟨o, ho, hex, hd⟩ := R.ob
  exact ⟨⟨o, ha o ho, hex, hd⟩, R.rows, R.tab, R.nd, ht, R.plain, R.led, R.room, R.mask⟩
theorem stR_fresh {h : Heap} {a : Addr} (ho : h.get? a = some { cls := .type "set", dict := none, data := .set #[] 0 (.fresh 0 0 (!w.params.followText "set-order")) }) : StR P w h a [] #[] 0 (.fresh 0 0 (!w.params.followText "set-order")) := by
  have R := setTR_fresh (P := P) ho
  have mk : MkS (SetTable.fresh 0 0 (!w.params.followText "set-order")).mask := by
    rcases R.tab.mok with e | e | e
    · exact .inl e
    · exact .inr (.inl e)
    · exact .inr (.inr (.inl e))
  exact ⟨R.ob, R.rows, ⟨R.tab.ris, R.tab.dm, R.tab.sz, mk.rd, R.tab.bd, R.tab.reach⟩, R.nd, R.tup, R.plain, R.led, R.room, mk⟩
end
section
variable {P : Program} {w : World} {A : Around} {E : Value → Shared → Prop}
/-- the update's loop -/
theorem many_loop {I S : Addr} {fp wr : List Addr} {G : Array GenState → Array GenState → Prop} {n : Nat} {Pv : Nat → Value → Prop} {St : Nat → Shared → Prop} {R : Result → Shared → Prop} {h0 : Heap} {ks : List (Addr × List Int)}
    (W : WalksS P w A.in1 I fp wr G n Pv St) (far : S ∉ fp) (many : n = ks.length) (few : FewOf2 ks) (val : ∀ i v, Pv i v → ∃ p, ks[i]? = some p ∧ v = .ref p.1)
    (tup : ∀ p ∈ ks, IsT P w h0 p.2 p.1) (new : h0.get? S = none) (wnew : ∀ b ∈ wr, h0.get? b = none) (room : A.in1.units < cLine) :
    ∀ (k i : Nat) (s : Shared), i + k = n → St i s → (∀ b o, h0.get? b = some o → s.heap.get? b = some o) → (∃ L es ep t, StR P w s.heap S L es ep t ∧ Kept2 ks i L) →
      (∀ s' L es ep t, Moved (S :: wr) G s s' → StR P w s'.heap S L es ep t → Kept2 ks n L → (∀ b o, h0.get? b = some o → s'.heap.get? b = some o) → R (.ok (.ret .none)) s') →
      codeAny (model P w) A (.builtin "set.update.loop" ⟨[.ref S, .ref I], []⟩) R s := by
  have notw : S ∉ wr := fun h => far (W.sub _ h)
  have stays : ∀ {s s' : Shared}, Moved wr G s s' → (∀ b o, h0.get? b = some o → s.heap.get? b = some o) → ∀ b o, h0.get? b = some o → s'.heap.get? b = some o := fun m h b o e => by
    refine m.heap b o (fun hb => ?_) (h b o e)
    rw [wnew b hb] at e
    exact nomatch e
  intro k
  induction k with
  | zero =>
    rintro i s hi st old ⟨L, es, ep, t, T, g⟩ fin
    obtain rfl : i = n := by omega
    refine codeAny_builtin F.entry_set_update_loop ?_
    rw [Around.under_plainId F.plain_set_update_loop _]
    show wpAny _ A.in1 (pyNext (.ref I) >>= _) _ _ s
    refine wpAny_bind (W.done s _ _ st fun s' m => ?_)
    show wpAny _ A.in1 (ret Value.none) _ _ s'
    have old' := stays m old
    refine wpAny_pure (fin s' L es ep t (m.mono fun b hb => List.mem_cons_of_mem _ hb) (T.keep (fun o e => m.heap S o notw e) fun p hp => isT_keep (tup p (g.sub p hp)) old') g old')
  | succ k ih =>
    rintro i s hi st old ⟨L, es, ep, t, T, g⟩ fin
    refine codeAny_builtin F.entry_set_update_loop ?_
    rw [Around.under_plainId F.plain_set_update_loop _]
    show wpAny _ A.in1 (pyNext (.ref I) >>= _) _ _ s
    refine wpAny_bind (W.item i s _ _ (by omega) st fun v s1 pv st1 m => ?_)
    obtain ⟨p, hp, rfl⟩ := val i v pv
    have old1 := stays m old
    have T1 : StR P w s1.heap S L es ep t := T.keep (fun o e => m.heap S o notw e) fun q hq => isT_keep (tup q (g.sub q hq)) old1
    have tp : IsT P w s1.heap p.2 p.1 := isT_keep (tup p (List.mem_of_getElem? hp)) old1
    show wpAny _ A.in1 (holding [Value.ref p.1] (setAdd S (.ref p.1)) >>= _) _ _ s1
    refine wpAny_bind (wpAny_holding ?_)
    unfold setAdd
    refine wpAny_holding (wpAny_bind (wpAny_pyHash_tuple room tp ?_))
    refine StR.add (s := { s1 with toks := s1.toks + (p.2.length + 1) }) T1 tp room (few L g.sub T.nd) fun b h2 L2 es2 ep2 t2 sb T2 c1 c2 => ?_
    have old2 : ∀ b o, h0.get? b = some o → h2.get? b = some o := fun b o e => by
      refine (sb.2 b fun z => ?_).trans (old1 b o e)
      rw [z, new] at e
      exact nomatch e
    refine wpAny_pure ⟨plainId_quiet F.plain_set_update_loop _, ih (i + 1) _ (by omega) (W.frame _ s1 _ _ st1 (Nat.le_add_right _ _) fun b hb o e => ?_) old2 ⟨L2, es2, ep2, t2, T2, g.step hp c1 c2⟩ fun s3 L3 es3 ep3 t3 m3 T3 g3 old3 => ?_⟩
    · rw [sb.2 b fun z : b = S => far (by rw [← z]; exact hb)]
      exact e
    · refine fin s3 L3 es3 ep3 t3 (Moved.trans W.gtrans ((m.mono fun b hb => List.mem_cons_of_mem _ hb).then_heap (Nat.le_add_right _ _) fun b o hb e => ?_) m3) T3 g3 old3
      rw [sb.2 b fun z : b = S => hb (by rw [z]; exact List.mem_cons_self)]
      exact e
end
end L2
namespace L2
open PySem PySem.Spec PyProof.Rows
section
variable {P : Program} {w : World} {A : Around} {E : Value → Shared → Prop} {s : Shared}
/-- a set as it is made -/
abbrev set02 (w : World) : Obj := { cls := .type "set", dict := none, data := .set #[] 0 (.fresh 0 0 (!w.params.followText "set-order")) }
/-- set(list) -/
theorem many_call {l : Addr} {its : Array Value} (ks : List (Addr × List Int)) {Q : Value → Shared → Prop} (calm : A.handled = none) (hl : s.heap.IsList l its) (he : its.toList = ks.map fun p => Value.ref p.1)
    (tup : ∀ p ∈ ks, IsT P w s.heap p.2 p.1) (few : FewOf2 ks) (room : A.units + 3 < cLine)
    (fin : ∀ (h' : Heap) (tk : Nat) L es ep t, StR P w h' s.heap.objs.size L es ep t → Kept2 ks ks.length L → (∀ b o, s.heap.get? b = some o → h'.get? b = some o) → Q (.ref s.heap.objs.size) { s with heap := h', toks := tk }) :
    wpAny (model P w) A (call (.type "set") [.ref l]) Q E s := by
  have sz : its.size = ks.length := by rw [← Array.length_toList, he, List.length_map]
  obtain ⟨c, tl, hmro⟩ := F.called_set.mro
  have hmade := F.called_set.made
  have hsub := F.called_set.sub
  have h1 := F.called_set.notType
  have h2 := F.called_set.canCreate
  have hct := F.typeCall_set_1 (.ref l)
  refine wpAny_call (codeAny_of_tree ?_)
  show wpAny _ _ (callAny (.type "set") _) _ _ _
  refine wpAny_pure ⟨Code.quiet_builtin _ (by decide +kernel), codeAny_builtin F.entry_type_call ?_⟩
  rw [Around.under_plain (weight_type_call_type "set" [.ref l] []) rfl]
  repeat (any_goals (first | assumption | wp_step))

  refine codeAny_mono (code_set_led1 (.ref l) (E := E) (Q₁ := fun o s1 => o = .ref s.heap.objs.size ∧ s1 = { s with heap := s.heap.push (set02 w) }) ⟨rfl, rfl⟩) fun r s1 hr => ?_
  cases r with
  | error e => exact hr
  | ok fl =>
    cases fl with
    | ret obj =>
      obtain ⟨rfl, rfl⟩ := hr
      have at_ : (s.heap.push (set02 w)).get? s.heap.objs.size = some (set02 w) := Heap.get?_push_size _ rfl
      have ty : Shared.TypeIs { s with heap := s.heap.push (set02 w) } (.ref s.heap.objs.size) "set" := ⟨_, at_, rfl⟩
      have hli := F.called_set.init.lookup
      have hbi := F.called_set.init.bind (.ref s.heap.objs.size)
      repeat (any_goals (first | assumption | wp_step))

      refine codeAny_mono (codeAny_call_builtin (R := wants (fun r s2 => r = .none ∧ ∃ h' tk L es ep t, s2 = { s with heap := h', toks := tk } ∧ StR P w h' s.heap.objs.size L es ep t ∧ Kept2 ks ks.length L ∧
          (∀ b o, s.heap.get? b = some o → h'.get? b = some o)) E) F.called_set.init.plain F.entry_set_init (check_set_init_1 ty ?_)) fun r2 s2 hr2 => ?_
      · obtain ⟨⟨oc, od, oda, osl⟩, hol, hc, nl, hd⟩ := hl
        have lt : l < s.heap.objs.size := Heap.lt_size hol
        simp only at hc hd
        subst hc; subst hd
        have hol' : (s.heap.push (set02 w)).get? l = some { cls := .type "list", dict := od, data := .seq its nl, slots := osl } := Heap.get?_push_of_some _ hol
        have hsls := F.sub_list_set
        have hslf := F.sub_list_frozenset
        have hne : (Value.type "list" == Value.type "dict") = false := by decide
        have hl1 : (s.heap.push (set02 w)).IsList l its := ⟨_, hol', rfl, nl, rfl⟩
        unfold Builtin.«set.__init__» noKeywords Builtin.Frozenset.updateFrom
        generalize hPI : pyIter = PI
        wp_walk
        subst hPI

        refine wpAny_pyIter_list hl1 ?_
        refine wpAny_bind (wpAny_runValue ?_)
        have calm3 : A.in1.in1.in1.handled = none := by simp [calm]
        have psz : (s.heap.push (set02 w)).objs.size = s.heap.objs.size + 1 := Heap.size_push ..
        have neI : l ≠ (s.heap.push (set02 w)).objs.size := by rw [psz]; exact Nat.ne_of_lt (Nat.lt_succ_of_lt lt)
        have far : s.heap.objs.size ∉ [(s.heap.push (set02 w)).objs.size, l] := by
          rw [psz]
          simp only [List.mem_cons, List.not_mem_nil, or_false, not_or]
          exact ⟨Nat.ne_of_lt (Nat.lt_succ_self _), Nat.ne_of_gt lt⟩
        have val : ∀ (i : Nat) (v : Value), its[i]? = some v → ∃ p, ks[i]? = some p ∧ v = .ref p.1 := fun i v hv => by
          have q : its.toList[i]? = some v := by rw [Array.getElem?_toList]; exact hv
          rw [he, List.getElem?_map] at q
          obtain ⟨p, hp, e⟩ := Option.map_eq_some_iff.mp q
          exact ⟨p, hp, e.symm⟩
        have new : ∀ b, s.heap.objs.size ≤ b → s.heap.get? b = none := fun b hb => by
          cases q : s.heap.get? b with
          | none => rfl
          | some o => exact absurd (Nat.lt_of_lt_of_le (Heap.lt_size q) hb) (Nat.lt_irrefl _)
        refine many_loop (S := s.heap.objs.size) (ks := ks) (h0 := s.heap) ((Walks.list calm3 _ l neI its).toS) far sz few val tup (new _ (Nat.le_refl _)) (fun b hb => new b (by
            rw [List.mem_singleton.mp hb, psz]; exact Nat.le_succ _)) room its.size 0 _ (by omega) ⟨⟨_, Heap.get?_push_size _ rfl, rfl, rfl⟩, (hl1.push _)⟩ (fun b o e => Heap.get?_push_of_some _ (Heap.get?_push_of_some _ e)) ?made ?end_
        case made => exact ⟨[], #[], 0, _, stR_fresh (Heap.get?_push_of_some _ at_), fun p hp => (nomatch hp), fun j p hj => absurd hj (Nat.not_lt_zero _)⟩
        case end_ =>
          intro s' L es ep t m T g old
          obtain ⟨h', g2, d', tk', os'⟩ := s'
          obtain rfl : g2 = s.gens := m.gens
          obtain rfl : d' = s.drawn := m.drawn
          obtain rfl : os' = s.os := m.os
          show wpAny _ _ _ _ _ _
          refine wpAny_pure ?_
          show wpAny _ _ (ret Value.none) _ _ _
          rw [sz] at g
          exact wpAny_pure ⟨rfl, h', tk', L, es, ep, t, rfl, T, g, old⟩
      · cases r2 with
        | error e => exact hr2
        | ok fl2 =>
          cases fl2 with
          | ret r =>
            obtain ⟨rfl, h', tk, L, es, ep, t, rfl, T, g, old⟩ := hr2
            repeat (any_goals (first | assumption | wp_step))
            exact fin _ _ _ _ _ _ T g old
          | _ => exact hr2.elim
    | _ => exact hr.elim
end
end L2
/-! sorted(set(x)) of points of which at most 1200 are unlike -/
namespace L2
open PySem PySem.Spec PyProof.Rows
/-- the set at a, its tuples told elsewhere -/
structure StR0 (P : Program) (w : World) (h : Heap) (a : Addr) (L : List (Addr × List Int)) : Prop where
  few : L.length ≤ 1200
  ex : ∃ (es : Array (Int × Value)) (ep : Nat) (t : SetTable), (∃ o, h.get? a = some o ∧ o.ExactSet ∧ o.data = .set es ep t) ∧ (es.toList = rowsOf P w L ∧ TbR t (L.map fun p => thash P w p.2) ∧ (L.map (·.2)).Nodup ∧ t.plain = true ∧
    (w.params.followText "set-order" = true ∨ t.led = true) ∧ L.length * 5 < t.mask * 3 ∧ MkS t.mask)
def StO (P : Program) (w : World) (a : Addr) (L : List (Addr × List Int)) : HO := .ext fun h => StR0 P w h a L
section
variable {P : Program} {w : World} {h : Heap} {a : Addr} {L : List (Addr × List Int)}
theorem StR.c0 {es : Array (Int × Value)} {ep : Nat} {t : SetTable} (R : StR P w h a L es ep t) (few : L.length ≤ 1200) : StR0 P w h a L := ⟨few, es, ep, t, R.ob, R.rows, R.tab, R.nd, R.plain, R.led, R.room, R.mask⟩
theorem StR0.full (R : StR0 P w h a L) (ht : ∀ p ∈ L, IsT P w h p.2 p.1) : ∃ es ep t, StR P w h a L es ep t ∧ L.length ≤ 1200 := by
  obtain ⟨few, es, ep, t, h1, h2, h3, h4, h5, h6, h7, h8⟩ := R
  exact ⟨es, ep, t, ⟨h1, h2, h3, h4, ht, h5, h6, h7, h8⟩, few⟩
theorem stO_new {H : Hp} (R : StR0 P w h a L) : ObjOk P w H h a (StO P w a L) := by
  have ⟨_, _, _, ⟨o, ho, _⟩, _⟩ := R.ex
  refine ⟨R, ⟨o, ho⟩, fun h1 h2 p k => ?_⟩
  have ⟨f, es', ep', t', ⟨o', ho', r'⟩, q'⟩ : StR0 P w h1 a L := p
  exact ⟨f, es', ep', t', ⟨o', k o' ho', r'⟩, q'⟩
end
section
variable {P : Program} {w : World} {A : Around} {s : Shared} {E : Value → Shared → Prop}
theorem encI_eq2 {q : Addr × List Int} (h : q.2.length = 2) : encI q = .tuple (q.2.map .int) := by
  obtain ⟨a, l⟩ := q
  match l, h with
  | [x, y], _ => rfl
theorem sorted_setM {a : Addr} {L : List (Addr × List Int)} {es : Array (Int × Value)} {ep : Nat} {t : SetTable} {Q : Value → Shared → Prop} (R : StR P w s.heap a L es ep t) (few : L.length ≤ 1200) (hh : A.handled = none) (hu : A.units + 66 < cLine)
    (hB : ∀ p ∈ L, p.2.length = 2)
    (hQ : ∀ s' p (out : Array Value) (c : Nat) (L' : List (Addr × List Int)), (∀ b o, s.heap.get? b = some o → s'.heap.get? b = some o) → s'.gens = s.gens → s'.os = s.os → s.heap.objs.size ≤ p →
      s'.heap.get? p = some (seqObj "list" out c) → out.toList = L'.map (fun q => Value.ref q.1) → L'.Perm L → L'.Pairwise (fun q r => LtP (prI q) (prI r)) → Q (.ref p) s') :
    wpAny (model P w) A (call (.builtin "sorted") [.ref a]) Q E s := by
  obtain ⟨o, ho, hex, hd⟩ := R.ob
  have hsz := R.size
  have hfew := few
  refine Calls.call_function_entry kind_sorted plain_sorted entry_sorted (args_sorted1 _) ?_
  unfold Builtin.«sorted»
  refine wpAny_bind (m := checkCount "sorted" 1 1 _) (wpAny_pure ?_)
  refine wpAny_bind (collect_set (A := A.in1) hh ⟨o, ho, hex.1, hd⟩ R.fits (by unfold scanBound; omega) R.tab.asc R.led fun s1 vs k1 hz g1 o1 pm => ?_)
  have hes : es.toList.map (·.2) = L.map fun q => Value.ref q.1 := by
    rw [R.rows]
    unfold rowsOf
    rw [List.map_map] <;> rfl
  rw [hes] at pm
  have ord : ∀ vs : List Value, (∀ v ∈ vs, ∃ q ∈ L, v = Value.ref q.1) → ∃ L1 : List (Addr × List Int), vs = L1.map (fun q => Value.ref q.1) ∧ ∀ q ∈ L1, q ∈ L := by
    intro vs
    induction vs with
    | nil => intro _; exact ⟨[], rfl, fun q hq => (by cases hq)⟩
    | cons v vs ih =>
      intro hv
      obtain ⟨q, hq, e⟩ := hv v List.mem_cons_self
      obtain ⟨L1, e1, hs⟩ := ih fun u hu => hv u (List.mem_cons_of_mem _ hu)
      refine ⟨q :: L1, by rw [List.map_cons, e, e1], fun r hr => ?_⟩
      rcases List.mem_cons.mp hr with z | z
      · rw [z]; exact hq
      · exact hs r z
  have one : ∀ q ∈ L, ∀ r ∈ L, q.1 = r.1 → q = r := fun q hq r hr e => by
    have a1 := R.tup q hq
    have a2 := R.tup r hr
    rw [e] at a1
    exact Prod.ext e (a1.inj a2)
  have perm_of : ∀ L1 : List (Addr × List Int), (∀ q ∈ L1, q ∈ L) → (L1.map (fun q => Value.ref q.1)).Perm (L.map fun q => Value.ref q.1) → L1.Perm L := by
    intro L1 hs pm1
    have nL : L.Nodup := nodup_of_map R.nd
    have nref : (L.map fun q => Value.ref q.1).Nodup := by
      refine List.pairwise_map.mpr (List.Pairwise.imp_of_mem (fun {q r} hq hr hne e => ?_) nL)
      injection e with e
      exact hne (one q hq r hr e)
    have n1 : L1.Nodup := nodup_of_map (pm1.nodup_iff.mpr nref)
    refine (List.perm_ext_iff_of_nodup n1 nL).mpr fun q => ⟨hs q, fun hq => ?_⟩
    have hm : Value.ref q.1 ∈ L1.map (fun q => Value.ref q.1) := pm1.mem_iff.mpr (List.mem_map.mpr ⟨q, hq, rfl⟩)
    obtain ⟨r, hr, e⟩ := List.mem_map.mp hm
    injection e with e
    rw [← one r (hs r hr) q hq e]
    exact hr
  obtain ⟨L1, rfl, hs1⟩ := ord vs fun v hv => by
    obtain ⟨q, hq, e⟩ := List.mem_map.mp (pm.mem_iff.mp hv)
    exact ⟨q, hq, e.symm⟩
  have p1 := perm_of L1 hs1 pm
  have hl1 : L1.length ≤ 1200 := by rw [p1.length_eq]; exact hfew
  refine wpAny_bind (wpAny_newList ?_ (by rw [List.length_map, sizeLine_eq]; omega))
  have hoL : (s1.heap.push (seqObj "list" (L1.map fun q => Value.ref q.1).toArray 0)).get? s1.heap.objs.size = some (seqObj "list" (L1.map fun q => Value.ref q.1).toArray 0) := Heap.get?_push_size _ rfl
  have rd : ∀ q ∈ L1, Reads (s1.heap.push (seqObj "list" (L1.map fun q => Value.ref q.1).toArray 0)) (.ref q.1) (encI q) [] := fun q hq => by
    have hL := hs1 q hq
    obtain ⟨b, items, e, ⟨o2, ho2, hc2, n2, hd2⟩, hi⟩ := tupInts_of (P := P) (w := w) (isT_keep (R.tup q hL) fun b u e => Heap.get?_push_of_some (seqObj "list" (L1.map fun q => Value.ref q.1).toArray 0) (k1 b u e))
    cases e
    rw [encI_eq (hB q hL)]
    exact Reads.tuple ho2 hc2 hd2 (hi.reads _)
  have each : ∀ M : List (Addr × List Int), (∀ q ∈ M, q ∈ L1) → PySem.W.EachIs (fun (v : Value) (q : Addr × List Int) => v = .ref q.1) (M.map fun q => Value.ref q.1) M ∧
      PySem.W.EachIs (fun (v : Value) (q : Addr × List Int) => ∃ as, Reads (s1.heap.push (seqObj "list" (L1.map fun q => Value.ref q.1).toArray 0)) v (encI q) as ∧ s1.heap.objs.size ∉ as) (M.map fun q => Value.ref q.1) M := by
    intro M
    induction M with
    | nil => intro _; exact ⟨.nil, .nil⟩
    | cons q M ih =>
      intro h
      obtain ⟨a, b⟩ := ih fun r hr => h r (List.mem_cons_of_mem _ hr)
      exact ⟨.cons rfl a, .cons ⟨[], rd q (h q List.mem_cons_self), by simp⟩ b⟩
  obtain ⟨ea, eb⟩ := each L1 fun q h => h
  have dep : ∀ q, (encI q).depth ≤ 1 := fun q => by
    unfold encI PyData.depth PyData.depthAll PyData.depthAll PyData.depthAll PyData.depth
    decide
  refine wpAny_bind (wpAny_holding (PySem.W.list_sort_data (s := { s1 with heap := s1.heap.push (seqObj "list" (L1.map fun q => Value.ref q.1).toArray 0) }) (enc := encI) hoL ea eb ?_ ?_ (by rw [sizeLine_eq]; omega) (fun q _ => ?_) fun out _ h2 => ?_))
  · intro d hd d' hd'
    obtain ⟨q, _, rfl⟩ := List.mem_map.mp hd
    obtain ⟨r, _, rfl⟩ := List.mem_map.mp hd'
    rfl
  · refine .inl fun d hd => ?_
    obtain ⟨q, _, rfl⟩ := List.mem_map.mp hd
    exact ⟨_, _, rfl⟩
  · have := dep q
    show A.units + 1 + 1 + (encI q).depth < cLine
    omega
  · obtain ⟨c, hc⟩ := sortedHeap_at (vs := L1.map fun q => Value.ref q.1) (out := out.toArray) hoL
    generalize hS : L1.mergeSort (PySem.W.dataLe false encI) = S at h2
    have eo : out = S.map fun q => Value.ref q.1 := by
      have key : ∀ {out : List Value} {S : List (Addr × List Int)}, PySem.W.EachIs (fun (v : Value) (q : Addr × List Int) => v = .ref q.1) out S → out = S.map fun q => Value.ref q.1 := by
        intro out S h
        induction h with
        | nil => rfl
        | cons r _ ih => rw [List.map_cons, r, ih]
      exact key h2
    have ps : S.Perm L1 := by rw [← hS]; exact List.mergeSort_perm _ _
    have ele : PySem.W.dataLe false encI = fun p q => decide ((prI p).1 < (prI q).1 ∨ ((prI p).1 = (prI q).1 ∧ (prI p).2 ≤ (prI q).2)) := PySem.W.dataLe_ii (fun q => (prI q).1) (fun q => (prI q).2)
    have pw : S.Pairwise (fun q r => LtP (prI q) (prI r)) := by
      have h3 := List.pairwise_mergeSort (le := PySem.W.dataLe false encI) (fun a b c => by
        rw [ele]; simp only [decide_eq_true_eq]; omega) (fun a b => by
        rw [ele]; simp only [Bool.or_eq_true, decide_eq_true_eq]; omega) L1
      rw [hS, ele] at h3
      have nd : S.Pairwise (fun q r => q.2 ≠ r.2) := by
        have : (S.map (·.2)).Nodup := ((ps.trans p1).map (·.2)).nodup_iff.mpr R.nd
        exact List.pairwise_map.mp this
      refine List.Pairwise.imp_of_mem (fun {q r} hq hr h => ?_) (h3.and nd)
      obtain ⟨h4, h5⟩ := h
      have l1 := hB q (hs1 q (ps.mem_iff.mp hq))
      have l2 := hB r (hs1 r (ps.mem_iff.mp hr))
      have h4 := of_decide_eq_true h4
      obtain ⟨aq, lq⟩ := q
      obtain ⟨ar, lr⟩ := r
      match lq, lr, l1, l2 with
      | [x, y], [x', y'], _, _ =>
        have h4 : x < x' ∨ (x = x' ∧ y ≤ y') := h4
        show x < x' ∨ (x = x' ∧ y < y')
        have h5 : ¬ ([x, y] = [x', y']) := h5
        by_cases e : x = x'
        · by_cases e2 : y = y'
          · exact absurd (by rw [e, e2]) h5
          · omega
        · omega
    refine wpAny_pure ⟨_, rfl, hQ _ s1.heap.objs.size out.toArray c S (fun b u e => ?_) g1 o1 hz hc eo (ps.trans p1) pw⟩
    have q := k1 b u e
    have hlt := Heap.lt_size q
    show (sortedHeap (s1.heap.push (seqObj "list" (L1.map fun q => Value.ref q.1).toArray 0)) s1.heap.objs.size _ out.toArray).get? b = some u
    rw [sortedHeap_old (Nat.ne_of_lt hlt) (by rw [size_push']; exact Nat.lt_succ_of_lt hlt)]
    exact Heap.get?_push_of_some _ q
end
def rSortedM (K : PySem.W.Frag) (P : Program) (w : World) : List V → Hp → VK → Prop := fun vs H Q => ∃ (a : Addr) (L : List (Addr × List Int)), vs = [V.ref a] ∧ H a = some (StO P w a L) ∧ (∀ p ∈ L, SqT K H p.1 (p.2.map V.int)) ∧
  (∀ p ∈ L, p.2.length = 2) ∧
  ∀ (L' : List (Addr × List Int)) (p : Addr), L'.Perm L → L'.Pairwise (fun q r => LtP (prI q) (prI r)) → H p = none → Q (.ref p) (upd H p (.lst (L'.map fun q => V.ref q.1)))
theorem cr_sortedM {X : Cx} (hc : X.calm = true) (hu : X.A.units + 66 < cLine) : CallR X (.builtin "sorted") (rSortedM X.K X.prog X.w) := by
  intro pins s σ H vs us Q I r h
  obtain ⟨a, L, rfl, ha, hk, hB, q⟩ := h
  have R0 : StR0 X.prog X.w s.heap a L := (I.hok a _ ha).1
  obtain ⟨es, ep, t, R, few⟩ := R0.full fun p hp => I.isT (hk p hp)
  rw [Vals.ref1 r]
  refine sorted_setM R few (I.ok.hd hc) hu hB fun s' p out c L' k g o hp hg hout pm pw => ?_
  have hfew : L'.length ≤ 1200 := by rw [pm.length_eq]; exact few
  have hlen : (L'.map fun q => V.ref q.1).length ≤ sizeLine := by rw [List.length_map, sizeLine_eq]; omega
  have hn : H p = none := I.hok.fresh hp
  have hv : Vals (L'.map fun q => V.ref q.1) out.toList := by rw [hout]; exact vals_of_refs L'
  have J : Inv X pins σ (upd H p (.lst (L'.map fun q => V.ref q.1))) { s with heap := s'.heap, gens := s'.gens, drawn := s'.drawn, toks := s'.toks } :=
    I.call (ch := []) (Un.laid k hp hn) (I.hok.laid k hp ⟨hlen, out.toList, c, hv, hg⟩) (by rw [g]; exact I.bare) (fun _ z => nomatch z)
  have e : s' = { s with heap := s'.heap, gens := s'.gens, drawn := s'.drawn, toks := s'.toks } := by
    cases s'
    cases s
    cases o
    rfl
  rw [e]
  exact ⟨.ref p, _, J, rfl, q L' p pm pw hn⟩
section
variable {X : Cx}
def rSetMany (K : PySem.W.Frag) (P : Program) (w : World) : List V → Hp → VK → Prop := fun xs H Q => ∃ (l : Addr) (ks : List (Addr × List Int)), xs = [V.ref l] ∧ SqL K H l (ks.map fun p => V.ref p.1) ∧ (∀ p ∈ ks, SqT K H p.1 (p.2.map V.int)) ∧ FewOf2 ks ∧
  ∀ a L, H a = none → (∀ p ∈ L, p ∈ ks) → (∀ p ∈ ks, p.2 ∈ L.map (·.2)) → Q (.ref a) (upd H a (StO P w a L))
theorem cr_setMany (hc : X.calm = true) (hu : X.A.units + 64 < cLine) : CallR X (.type "set") (rSetMany X.K X.prog X.w) := by
  intro pins s σ H xs us Q I r h
  obtain ⟨l, ks, rfl, hl, hk, hf, q⟩ := h
  rw [Vals.ref1 r]
  obtain ⟨its, rv, pl, _⟩ := I.list hl
  refine many_call (P := X.prog) (w := X.w) ks (I.ok.hd hc) pl.isList (by simpa using refs_of_vals rv) (fun p hp => I.isT (hk p hp)) hf (by omega) fun h' tk L es ep t T g old => ?_
  refine ⟨.ref s.heap.objs.size, upd H s.heap.objs.size (StO X.prog X.w s.heap.objs.size L), I.laid (t' := tk) old (Nat.le_refl _) (stO_new (T.c0 (hf L g.sub T.nd))), rfl, q _ L (I.hok.fresh (Nat.le_refl _)) g.sub fun p hp => ?_⟩
  obtain ⟨j, hj⟩ := List.getElem?_of_mem hp
  refine g.all j p ?_ hj
  by_cases z : j < ks.length
  · exact z
  · rw [List.getElem?_eq_none (by omega)] at hj; exact nomatch hj
end
end L2
namespace DL
open PySem PySem.Spec PyProof.Rows L2
variable {K : PySem.W.Frag}
/-- sorted(set(x)) of points among at most 1200 -/
def dSortedMany (a : DE) : DE := fun ρ κ ε => a ρ (fun x => asL x fun ds => onS (ptsD ds) fun ps => (∃ D : List Pt, D.length ≤ 1200 ∧ ∀ p ∈ ps, p ∈ D) ∧ ∀ L : List Pt, L.Pairwise LtP → (∀ p, p ∈ L ↔ p ∈ ps) → κ (.n (L.map pt))) ε
theorem nodup_fits2 {α : Type} [DecidableEq α] : ∀ (l D : List α), l.Nodup → (∀ x ∈ l, x ∈ D) → l.length ≤ D.length
  | [], D, _, _ => Nat.zero_le _
  | a :: l, D, nd, h => by
    obtain ⟨n1, n2⟩ := List.nodup_cons.mp nd
    have ha := h a List.mem_cons_self
    have := nodup_fits2 l (D.erase a) n2 fun x hx => by
      have ne : x ≠ a := fun z => n1 (by rw [← z]; exact hx)
      exact (List.mem_erase_of_ne ne).mpr (h x (List.mem_cons_of_mem _ hx))
    rw [List.length_erase_of_mem ha] at this
    have : 0 < D.length := List.length_pos_of_mem ha
    rw [List.length_cons]
    omega
theorem few_of2 {ks : List (Addr × List Int)} {D : List Pt} (hD : D.length ≤ 1200) (h2 : ∀ q ∈ ks, q.2 = [(prI q).1, (prI q).2]) (hm : ∀ q ∈ ks, prI q ∈ D) : FewOf2 ks := by
  intro L hL nd
  have nd2 : (L.map prI).Nodup := by
    refine List.pairwise_map.mpr (List.Pairwise.imp_of_mem (fun {a b} ha hb ne e => ne ?_) (List.pairwise_map.mp nd))
    rw [h2 a (hL a ha), h2 b (hL b hb), e]
  have sub : ∀ x ∈ L.map prI, x ∈ D := fun x hx => by
    obtain ⟨q, hq, rfl⟩ := List.mem_map.mp hx
    exact hm q (hL q hq)
  have l := nodup_fits2 _ D nd2 sub
  rw [List.length_map] at l
  omega
section
variable {X : Cx} {W : WX} {e : Expr} {d : DE} {p p2 pos pos2 : Pos}
theorem me_sortedMany {k : Nat} (C : Cn X W k) (hm : X.mg "sorted" = none) (hm2 : X.mg "set" = none) (h : ME X W e d) (hg : Gl X "sorted" := by rfl) (hg2 : Gl X "set" := by rfl)
    (he : starEach [e] X.env = (false, eval e X.env) :: starEach [] X.env := by rfl) (hpl : (backTo pos2 (starEach [] X.env)).any (·.1) = false := by rfl)
    (he2 : starEach [.Call (.Name "set" p2) [e] [] pos2] X.env = (false, eval (.Call (.Name "set" p2) [e] [] pos2) X.env) :: starEach [] X.env := by rfl) (hpl2 : (backTo pos (starEach [] X.env)).any (·.1) = false := by rfl) :
    ME X W (.Call (.Name "sorted" p) [.Call (.Name "set" p2) [e] [] pos2] [] pos) (dSortedMany d) := by
  obtain ⟨t, pa, oa⟩ := h
  refine ⟨_, pe_callB (cr_sortedM C.hc (Room.u66 C.hr)) hg hm (by decide +kernel) (pa_cons (pe_callTy (cr_setMany C.hc C.hr.units) hg2 hm2 (by decide +kernel) (pa_cons pa pa_nil he) (by decide) (by decide) he hpl) pa_nil he2) (by decide) (by decide) he2 hpl2, fun H0 G0 G ρ σ H Q κ ε R h hq hx => ?_⟩
  refine oa H0 G0 G ρ σ H _ _ ε R h (fun v H1 G1 r x1 h1 k1 => ?_) hx
  obtain ⟨ds, ed, k2⟩ := asL.of k1
  obtain ⟨ps, ep, ⟨D, hD, hin⟩, k3⟩ := onS.of k2
  rw [ptsD_of ep] at ed
  have R1 := R.on x1
  obtain ⟨l, vs, rfl, b, c⟩ := h1.lst x1.s R1.ext.h ed
  obtain ⟨ks, rfl, g1, g2, g3, g4, g5⟩ := pts_keys x1.s c
  refine ⟨l, ks, rfl, b, g1, few_of2 hD g5 (fun q hq => hin _ (by rw [← g2]; exact List.mem_map_of_mem hq)), fun a L na hL hks => ?_⟩
  have x2 := Ext.newH (o := StO X.prog X.w a L) x1.s na
  refine ⟨a, L, rfl, upd_same, fun q hq => ?_, fun q hq => (g3 q (hL q hq)).1, fun L' p pm pw np => ?_⟩
  · exact sqT_mono x2.h (g1 q (hL q hq))
  · have x3 := Ext.newH (o := HO.lst (L'.map fun q => V.ref q.1)) x2.s np
    have hL' : ∀ q ∈ L', q ∈ ks := fun q hq => hL q (pm.mem_iff.mp hq)
    have x23 := (x1.trans x2).trans x3
    refine hq _ _ G1 (.n ((L'.map prI).map pt)) x23 ⟨p, _, rfl, upd_same, pts_rd fun q hq => (g3 q (hL' q hq)).2, (x1.trans x2).h.free np, x2.s.free np⟩ (k3 _ (List.pairwise_map.mpr pw) fun z => ⟨fun hz => ?_, fun hz => ?_⟩)
    · obtain ⟨q, hq, rfl⟩ := List.mem_map.mp hz
      rw [← g2]
      exact List.mem_map.mpr ⟨q, hL' q hq, rfl⟩
    · rw [← g2] at hz
      obtain ⟨q, hq, rfl⟩ := List.mem_map.mp hz
      obtain ⟨r, hr, er⟩ := List.mem_map.mp (hks q hq)
      refine List.mem_map.mpr ⟨r, pm.mem_iff.mpr hr, ?_⟩
      unfold prI
      rw [er]
end
end DL
/-! sets of many nested tuples of ints: as DLset5 to DLset7, over nested keys -/
namespace L2
open PySem PySem.Spec PyProof.Rows
mutual
/-- numbers alone -/
def onI : NestedKey → Bool
  | .none => false
  | .num _ => true
  | .text _ => false
  | .tup ks => onIs ks
def onIs : List NestedKey → Bool
  | [] => true
  | k :: ks => onI k && onIs ks
end
abbrev nhash (P : Program) (w : World) (k : NestedKey) : Int := (nestedKind P w).hash k
/-- the tuple at a is the key k -/
def IsN (P : Program) (w : World) (h : Heap) (k : NestedKey) (a : Addr) : Prop := (nestedKind P w).is h k a ∧ onI k = true
def rowsN (P : Program) (w : World) (L : List (Addr × NestedKey)) : List (Int × Value) := L.map fun p => (nhash P w p.2, Value.ref p.1)
section
variable {P : Program} {w : World} {A : Around} {E : Value → Shared → Prop} {s : Shared}
theorem isN_same {h h' : Heap} {k : NestedKey} {a b : Addr} {o : Obj} {es : Array (Int × Value)} {ep : Nat} {t : SetTable} (hb : IsN P w h k b) (ho : h.get? a = some o) (hd : o.data = .set es ep t) (hs : Heap.SameBut a h h') : IsN P w h' k b := by
  refine ⟨nestedKind_stays.stays (fun c o' vs n hc hv => ?_) hb.1, hb.2⟩
  refine (hs.2 c fun z => ?_).trans hc
  rw [z, ho] at hc
  cases hc
  rw [hd] at hv
  exact nomatch hv
theorem isN_keep {h h' : Heap} {k : NestedKey} {b : Addr} (x : IsN P w h k b) (hk : ∀ c o, h.get? c = some o → h'.get? c = some o) : IsN P w h' k b :=
  ⟨nestedKind_stays.stays (fun c o _ _ hc _ => hk c o hc) x.1, x.2⟩
/-- asking for the hash by value: at every value of a key of numbers -/
def HashAt (P : Program) (w : World) (n : Nat) (s : Shared) (v : Value) : Prop := ∀ (A : Around) (E : Value → Shared → Prop) (Q : Bool → Shared → Prop), Q true s → wpAny (model P w) A (hashByValue n v) Q E s
def ClassAt (P : Program) (w : World) (n : Nat) (s : Shared) (v : Value) : Prop := ∀ (A : Around) (E : Value → Shared → Prop) (Q : Bool → Shared → Prop), Q false s → wpAny (model P w) A (ofAClassStatement n v) Q E s
theorem hashAt_num {h : Heap} {i : Int} {v : Value} (x : NestedIs h (.num i) v) (n : Nat) : hashByValue n v = pure true := by
  cases x <;> cases n <;> rfl
theorem classAt_num {h : Heap} {i : Int} {v : Value} (x : NestedIs h (.num i) v) (n : Nat) : ofAClassStatement n v = pure false := by
  cases x <;> cases n <;> rfl
theorem hashAt_tup {n : Nat} {s : Shared} {a : Addr} {o : Obj} {vs : Array Value} {m : Nat} (ho : s.heap.get? a = some o) (hc : o.cls = .type "tuple") (hd : o.data = .seq vs m) (hq : ∀ v ∈ vs.toList, HashAt P w n s v) : HashAt P w (n + 1) s (.ref a) := fun A E Q h => by
  have hT : s.TypeIs (.ref a) "tuple" := ⟨o, ho, hc⟩
  unfold hashByValue
  refine wpAny_bind (wpAny_specialOf hT F.slot_tuple_hash.lookup ?_)
  show wpAny _ _ (seqItems? (.ref a) >>= _) _ _ s
  refine wpAny_bind (wpAny_seqItems ho hd ?_)
  refine wpAny_bind ?_
  show wpAny _ _ (forIn vs _ _) _ _ s
  rw [← Array.forIn_toList]
  refine wpAny_forIn_list _ (fun rest r s' => r.1 = none ∧ s' = s ∧ ∀ v ∈ rest, HashAt P w n s v) _ ?_ ?_ _ _ ⟨rfl, rfl, hq⟩
  · rintro v rest r s' ⟨hr, rfl, hall⟩
    refine wpAny_bind (hall v List.mem_cons_self _ _ _ ?_)
    simp only [Bool.not_true, Bool.false_eq_true, if_false]
    exact wpAny_pure ⟨rfl, rfl, fun u hu' => hall u (List.mem_cons_of_mem _ hu')⟩
  · rintro ⟨r1, r2⟩ s' ⟨hr, rfl, _⟩
    simp only at hr
    subst hr
    exact wpAny_pure h
theorem classAt_tup {n : Nat} {s : Shared} {a : Addr} {o : Obj} {vs : Array Value} {m : Nat} (ho : s.heap.get? a = some o) (hc : o.cls = .type "tuple") (hd : o.data = .seq vs m) (hq : ∀ v ∈ vs.toList, ClassAt P w n s v) : ClassAt P w (n + 1) s (.ref a) := fun A E Q h => by
  have hT : s.TypeIs (.ref a) "tuple" := ⟨o, ho, hc⟩
  unfold ofAClassStatement
  refine wpAny_bind (wpAny_typeOf hT ?_)
  dsimp only
  have e : (("tuple" : String) == "tuple") = true := by decide
  simp only [e, if_true, Bool.not_true, Bool.false_eq_true, if_false]
  try refine wpAny_bind (wpAny_pure ?_)
  try simp only [Bool.not_true, Bool.false_eq_true, if_false]
  show wpAny _ _ (seqItems? (.ref a) >>= _) _ _ s
  refine wpAny_bind (wpAny_seqItems ho hd ?_)
  dsimp only
  refine wpAny_bind ?_
  show wpAny _ _ (forIn vs _ _) _ _ s
  rw [← Array.forIn_toList]
  refine wpAny_forIn_list _ (fun rest r s' => r.1 = none ∧ s' = s ∧ ∀ v ∈ rest, ClassAt P w n s v) _ ?_ ?_ _ _ ⟨rfl, rfl, hq⟩
  · rintro v rest r s' ⟨hr, rfl, hall⟩
    refine wpAny_bind (hall v List.mem_cons_self _ _ _ ?_)
    simp only [Bool.false_eq_true, if_false]
    exact wpAny_pure ⟨rfl, rfl, fun u hu' => hall u (List.mem_cons_of_mem _ hu')⟩
  · rintro ⟨r1, r2⟩ s' ⟨hr, rfl, _⟩
    simp only at hr
    subst hr
    exact wpAny_pure h
mutual
theorem hashAt_key : ∀ (k : NestedKey) (v : Value) (n : Nat) (s : Shared), NestedIs s.heap k v → k.depth ≤ n → onI k = true → HashAt P w n s v
  | .none, _, n, s, x, _, h => by unfold onI at h; exact nomatch h
  | .num i, _, n, s, x, _, _ => fun A E Q q => by rw [hashAt_num x n]; exact wpAny_pure q
  | .text y, _, n, s, x, _, h => by unfold onI at h; exact nomatch h
  | .tup ks, _, n, s, x, hn, h => by
    unfold onI at h
    cases x with
    | tup hg hc hd hk =>
      simp only [NestedKey.depth] at hn
      cases n with
      | zero => omega
      | succ n => exact hashAt_tup hg hc hd (hashAt_keys ks _ n s hk (by omega) h)
theorem hashAt_keys : ∀ (ks : List NestedKey) (vs : List Value) (n : Nat) (s : Shared), NestedAll s.heap ks vs → NestedKey.depthAll ks ≤ n → onIs ks = true → ∀ v ∈ vs, HashAt P w n s v
  | [], _, n, s, x, _, _, v, hv => by cases x; cases hv
  | k :: ks, _, n, s, x, hn, h, v, hv => by
    unfold onIs at h
    rw [Bool.and_eq_true] at h
    cases x with
    | cons x1 x2 =>
      simp only [NestedKey.depthAll] at hn
      rcases List.mem_cons.mp hv with e | hv
      · rw [e]; exact hashAt_key k _ n s x1 (by omega) h.1
      · exact hashAt_keys ks _ n s x2 (by omega) h.2 v hv
end
mutual
theorem classAt_key : ∀ (k : NestedKey) (v : Value) (n : Nat) (s : Shared), NestedIs s.heap k v → k.depth ≤ n → onI k = true → ClassAt P w n s v
  | .none, _, n, s, x, _, h => by unfold onI at h; exact nomatch h
  | .num i, _, n, s, x, _, _ => fun A E Q q => by rw [classAt_num x n]; exact wpAny_pure q
  | .text y, _, n, s, x, _, h => by unfold onI at h; exact nomatch h
  | .tup ks, _, n, s, x, hn, h => by
    unfold onI at h
    cases x with
    | tup hg hc hd hk =>
      simp only [NestedKey.depth] at hn
      cases n with
      | zero => omega
      | succ n => exact classAt_tup hg hc hd (classAt_keys ks _ n s hk (by omega) h)
theorem classAt_keys : ∀ (ks : List NestedKey) (vs : List Value) (n : Nat) (s : Shared), NestedAll s.heap ks vs → NestedKey.depthAll ks ≤ n → onIs ks = true → ∀ v ∈ vs, ClassAt P w n s v
  | [], _, n, s, x, _, _, v, hv => by cases x; cases hv
  | k :: ks, _, n, s, x, hn, h, v, hv => by
    unfold onIs at h
    rw [Bool.and_eq_true] at h
    cases x with
    | cons x1 x2 =>
      simp only [NestedKey.depthAll] at hn
      rcases List.mem_cons.mp hv with e | hv
      · rw [e]; exact classAt_key k _ n s x1 (by omega) h.1
      · exact classAt_keys ks _ n s x2 (by omega) h.2 v hv
end
theorem hashByN {k : NestedKey} {b : Addr} {Q : Bool → Shared → Prop} (hk : IsN P w s.heap k b) (h : Q true s) : wpAny (model P w) A (hashByValue 8 (.ref b)) Q E s :=
  hashAt_key k _ 8 s hk.1.1 hk.1.2 hk.2 A E Q h
theorem ofAClassN {k : NestedKey} {b : Addr} {Q : Bool → Shared → Prop} (hk : IsN P w s.heap k b) (h : Q false s) : wpAny (model P w) A (ofAClassStatement 8 (.ref b)) Q E s :=
  classAt_key k _ 8 s hk.1.1 hk.1.2 hk.2 A E Q h
/-- a search among tuples shows nothing -/
theorem seenN {k : NestedKey} {b : Addr} {Q : Bool → Shared → Prop} (hk : IsN P w s.heap k b) {ys : List Value} (hy : ∀ y ∈ ys, ∃ k' c, y = Value.ref c ∧ IsN P w s.heap k' c) (h : Q false s) :
    wpAny (model P w) A (searchCouldBeSeen (.ref b) ys) Q E s := by
  unfold searchCouldBeSeen
  refine wpAny_bind ?_
  refine wpAny_forIn_list _ (fun rest r s' => r.1 = none ∧ s' = s ∧ ∀ y ∈ rest, ∃ k' c, y = Value.ref c ∧ IsN P w s.heap k' c) _ ?_ ?_ _ _ ⟨rfl, rfl, hy⟩
  · rintro v rest r s' ⟨hr, rfl, hall⟩
    obtain ⟨k', c, rfl, hc⟩ := hall v List.mem_cons_self
    have rest' : ∀ y ∈ rest, ∃ k' c, y = Value.ref c ∧ IsN P w s'.heap k' c := fun u hu' => hall u (List.mem_cons_of_mem _ hu')
    dsimp only
    by_cases hv : (b == c || (carriedByValue (.ref b) && carriedByValue (.ref c))) = true
    · refine wp_if_pos hv ?_
      exact wpAny_pure ⟨rfl, rfl, rest'⟩
    · refine wp_if_neg hv ?_
      refine wpAny_bind ((nestedKind P w).quiet hk.1 ?_)
      simp only [Bool.not_true, Bool.false_eq_true, if_false]
      refine wpAny_bind ((nestedKind P w).quiet hc.1 ?_)
      simp only [Bool.not_true, Bool.false_eq_true, if_false]
      refine wpAny_bind (ofAClassN hk ?_)
      simp only [Bool.false_eq_true, if_false]
      refine wpAny_bind (ofAClassN hc ?_)
      simp only [Bool.false_eq_true, if_false]
      exact wpAny_pure ⟨rfl, rfl, rest'⟩
  · rintro ⟨r1, r2⟩ s' ⟨hr, rfl, _⟩
    simp only at hr
    subst hr
    exact wpAny_pure h

theorem rowsN_put (L : List (Addr × NestedKey)) (p : Nat) (x : Addr) (k : NestedKey) : rowsN P w (L.take p ++ (x, k) :: L.drop p) = (rowsN P w L).take p ++ (nhash P w k, Value.ref x) :: (rowsN P w L).drop p := by
  unfold rowsN
  rw [List.map_append, List.map_cons, List.map_take, List.map_drop]
theorem orderN_rows (L : List (Addr × NestedKey)) (es : Array (Int × Value)) (order : Array Nat) (hr : es.toList = rowsN P w L) (hp : order.toList.Perm (List.range L.length)) :
    ∃ L2, (order.filterMap (es[·]?)).toList = rowsN P w L2 ∧ L2.Perm L ∧ (L2.map fun p => nhash P w p.2) = order.toList.map fun i => (es.map (·.1)).getD i 0 := by
  have hsz : es.size = L.length := by
    have h := congrArg List.length hr
    unfold rowsN at h
    rw [Array.length_toList, List.length_map] at h
    exact h
  have ent : ∀ i (h : i < L.length), es[i]? = some (nhash P w (L[i]).2, Value.ref (L[i]).1) := fun i h => by
    rw [← Array.getElem?_toList, hr]
    unfold rowsN
    rw [List.getElem?_map, List.getElem?_eq_getElem h] <;> rfl
  have key : ∀ l : List Nat, (∀ i ∈ l, i < L.length) → ∃ L2 : List (Addr × NestedKey), l.filterMap (fun i => es[i]?) = rowsN P w L2 ∧ L2 = l.filterMap (fun i => L[i]?) ∧ (L2.map fun p => nhash P w p.2) = l.map fun i => (es.map (·.1)).getD i 0 := by
    intro l
    induction l with
    | nil => intro _; exact ⟨[], rfl, rfl, rfl⟩
    | cons i l ih =>
      intro hl
      have hi := hl i List.mem_cons_self
      obtain ⟨L2, e1, e2, e3⟩ := ih fun j hj => hl j (List.mem_cons_of_mem _ hj)
      refine ⟨L[i] :: L2, ?_, ?_, ?_⟩
      · rw [List.filterMap_cons_some (ent i hi), e1] <;> rfl
      · rw [List.filterMap_cons_some (List.getElem?_eq_getElem hi), e2]
      · rw [List.map_cons, List.map_cons, e3]
        have hi2 : i < (es.map (·.1)).size := by rw [Array.size_map, hsz]; exact hi
        have e4 : (es.map (·.1)).getD i 0 = nhash P w (L[i]).2 := by
          have e5 : (es.map (·.1))[i]? = some (nhash P w (L[i]).2) := by rw [Array.getElem?_map, ent i hi] <;> rfl
          simp [Array.getD_eq_getD_getElem?, e5]
        rw [e4]
  obtain ⟨L2, e1, e2, e3⟩ := key order.toList fun i hi => List.mem_range.mp (hp.mem_iff.mp hi)
  refine ⟨L2, by first | (rw [Array.toList_filterMap]; exact e1) | simpa using e1, ?_, e3⟩
  have h1 : L2.Perm ((List.range L.length).filterMap fun i => L[i]?) := by
    rw [e2]
    exact hp.filterMap _
  have h2 : (List.range L.length).filterMap (fun i => L[i]?) = L := by
    have key2 : ∀ n, n ≤ L.length → (List.range n).filterMap (fun i => L[i]?) = L.take n := by
      intro n
      induction n with
      | zero => intro _; rfl
      | succ n ih =>
        intro hn
        have hlt : n < L.length := hn
        rw [List.range_succ, List.filterMap_append, ih (Nat.le_of_lt hlt), List.take_succ, List.getElem?_eq_getElem hlt]
        rw [List.filterMap_cons_some (List.getElem?_eq_getElem hlt)] <;> rfl
    rw [key2 L.length (Nat.le_refl _), List.take_length]
  rw [h2] at h1
  exact h1

variable {a : Addr} {L : List (Addr × NestedKey)} {es : Array (Int × Value)} {ep : Nat} {t : SetTable}
end
end L2
namespace L2
open PySem PySem.Spec PyProof.Rows
section
variable {P : Program} {w : World} {A : Around} {E : Value → Shared → Prop} {s : Shared}
/-- the set at a has the tuples L, in its own order -/
structure StN (P : Program) (w : World) (h : Heap) (a : Addr) (L : List (Addr × NestedKey)) (es : Array (Int × Value)) (ep : Nat) (t : SetTable) : Prop where
  ob : ∃ o, h.get? a = some o ∧ o.ExactSet ∧ o.data = .set es ep t
  rows : es.toList = rowsN P w L
  tab : TbR t (L.map fun p => nhash P w p.2)
  nd : (L.map (·.2)).Nodup
  tup : ∀ p ∈ L, IsN P w h p.2 p.1
  plain : t.plain = true
  led : w.params.followText "set-order" = true ∨ t.led = true
  room : L.length * 5 < t.mask * 3
  mask : MkS t.mask
variable {a : Addr} {L : List (Addr × NestedKey)} {es : Array (Int × Value)} {ep : Nat} {t : SetTable}
theorem rowsN_size {L : List (Addr × NestedKey)} {es : Array (Int × Value)} (h : es.toList = rowsN P w L) : es.size = L.length := by
  rw [← Array.length_toList, h]
  exact List.length_map ..
theorem StN.size (R : StN P w s.heap a L es ep t) : es.size = L.length := rowsN_size R.rows
theorem StN.len (R : StN P w s.heap a L es ep t) : t.place.size = L.length := R.tab.len.trans (List.length_map ..)
theorem StN.fits (R : StN P w s.heap a L es ep t) : t.fits es.size = true := by
  have := R.room
  rw [R.size]
  exact fits_of R.tab.dum R.len (by omega)
theorem StN.sits (R : StN P w s.heap a L es ep t) {i : Nat} {p : Addr × NestedKey} (h : L[i]? = some p) : es[i]? = some (nhash P w p.2, Value.ref p.1) := by
  rw [← Array.getElem?_toList, R.rows]
  unfold rowsN
  rw [List.getElem?_map, h]
  rfl
theorem StN.whole (R : StN P w s.heap a L es ep t) : ¬ t.gaveWay = true := by
  unfold SetTable.gaveWay
  rw [R.tab.rnd.odd]
  decide
theorem StN.seek (R : StN P w s.heap a L es ep t) {x : Addr} {k : NestedKey} (hx : IsN P w s.heap k x) (hu : A.units + 8 < cLine) {K : Nat} (fK : K < 10 * SetTable.turns t.mask)
    (EK : EndAt t (nhash P w k) K) {Q : SetFound → Shared → Prop} (hin : k ∈ L.map (·.2) → Q (.there none) s) (hout : k ∉ L.map (·.2) → Q (.free (way t.mask (nhash P w k) K) false) s) :
    ∀ (f c : Nat) (from_ : Option SetTable.Probe), from_.getD (t.probeStart (nhash P w k)) = stp0 t (nhash P w k) c → c ≤ K → K - c < f →
      (∀ (i : Nat) p, L[i]? = some p → p.2 = k → ∃ c', c ≤ c' ∧ c' < K ∧ t.place.toList[i]? = some (way t.mask (nhash P w k) c')) →
      wpAny (model P w) A (setSearchFrom a (.ref x) (nhash P w k) true f from_) Q E s
  | 0, _, _, _, _, hf, _ => absurd hf (Nat.not_lt_zero _)
  | f + 1, c, from_, st, hc, hf, left => by
    obtain ⟨o, ho, _, hd⟩ := R.ob
    generalize hH : nhash P w k = H at *
    rw [setSearchFrom_succ]
    refine wpAny_bind (wpAny_setState_of ho hd R.fits ?_)
    dsimp only
    refine wp_if_neg R.whole ?_
    try refine wpAny_bind (wpAny_pure ?_)
    have jq : ∀ q, (nth t.mask (stp0 t H c) q).j = way t.mask H (c + q) := fun q => congrArg SetTable.Probe.j (stp0_add t H c q)
    have cK : c + (K - c) = K := by omega
    have hashAt : ∀ (i : Nat) p, L[i]? = some p → (es[i]?.map (·.1)).getD 0 = nhash P w p.2 := fun i p hp => by rw [R.sits hp]; rfl
    rcases go_spec t R.tab.asc R.tab.dum (fun i => (es[i]?.map (·.1)).getD 0) H (10 * SetTable.turns t.mask) (K - c) (stp0 t H c) (quiet_step c _ rfl) (by omega)
      (fun q hq => by rw [jq]; exact EK.2 _ (by omega)) (by rw [jq, cK]; exact EK.1) with ⟨q, i, hq, hi, hh, before, found⟩ | ⟨none_, found⟩
    · rw [jq] at hi
      have pr : t.probe (fun i => (es[i]?.map (·.1)).getD 0) H (from_.getD (t.probeStart H)) = some (.candidate (way t.mask H (c + q)) i (stp0 t H (c + (q + 1)))) := by
        rw [st, ← jq q, ← stp0_add]
        exact found
      rw [pr]
      dsimp only
      have il : i < L.length := by
        have h1 := (List.getElem?_eq_some_iff.mp hi).1
        rw [Array.length_toList, R.len] at h1
        exact h1
      obtain ⟨p, hp⟩ : ∃ p, L[i]? = some p := ⟨_, List.getElem?_eq_getElem il⟩
      have pm : p ∈ L := List.mem_of_getElem? hp
      have live := slot_live R.tab.asc hi
      have rest : wpAny (model P w) A (searchRest a (.ref x) H true f es t (way t.mask H (c + q)) i (stp0 t H (c + (q + 1)))) Q E s := by
        unfold searchRest
        rw [R.sits hp]
        dsimp only
        refine wpAny_bind (wpAny_holding ((nestedKind P w).eqBool hu (R.tup p pm).1 hx.1 ?_))
        refine wpAny_bind (wpAny_setState_of ho hd R.fits ?_)
        dsimp only
        by_cases same : p.2 = k
        · exact wp_if_pos (by simp [same]) (wpAny_pure (hin (List.mem_map.mpr ⟨p, pm, same⟩)))
        · refine wp_if_neg (by simp [same]) ?_
          try refine wpAny_bind (wpAny_pure ?_)
          rw [sameMem]
          dsimp only
          simp only [if_true, live, R.sits hp]
          refine wpAny_bind (wpAny_isSame_ref_self (wpAny_bind (wpAny_pure ?_)))
          simp only [if_true]
          refine wp_if_neg (by simp [same]) ?_
          subst hH
          refine R.seek hx hu fK EK hin hout f (c + (q + 1)) _ rfl (by omega) (by omega) fun i' p' hp' ek => ?_
          obtain ⟨c', g1, g2, g3⟩ := left i' p' hp' ek
          refine ⟨c', ?_, g2, g3⟩
          rcases Nat.lt_trichotomy c' (c + q) with z | z | z
          · refine absurd ((hashAt i' p' hp').trans (congrArg (nhash P w) ek)) (before (c' - c) i' (by omega) ?_)
            rw [jq, show c + (c' - c) = c' by omega]
            exact g3
          · rw [z] at g3
            have e := slot_live R.tab.asc g3
            rw [live] at e
            cases e
            rw [hp] at hp'
            cases hp'
            exact absurd ek same
          · omega
      by_cases hl : t.led = true
      · refine wp_if_neg (by simp [hl]) ?_
        try refine wpAny_bind (wpAny_pure ?_)
        exact rest
      · refine wp_if_pos (by simp [hl]) ?_
        refine wpAny_bind (seenN hx (fun y hy => ?_) ?_)
        · obtain ⟨e, he, rfl⟩ := List.mem_map.mp hy
          have he : e ∈ es.toList := by
            have := Array.mem_toList_iff.mp he
            exact Array.mem_toList_iff.mpr (Array.mem_filter.mp this).1
          rw [R.rows] at he
          obtain ⟨p2, hp2, rfl⟩ := List.mem_map.mp he
          exact ⟨p2.2, p2.1, rfl, R.tup p2 hp2⟩
        · refine wp_if_neg (by decide) ?_
          try refine wpAny_bind (wpAny_pure ?_)
          exact rest
    · have pr : t.probe (fun i => (es[i]?.map (·.1)).getD 0) H (from_.getD (t.probeStart H)) = some (.empty (way t.mask H K) none) := by
        have e := jq (K - c)
        rw [cK] at e
        rw [st, ← e]
        exact found
      rw [pr]
      dsimp only
      refine wpAny_pure (hout fun hm => ?_)
      obtain ⟨p, pm, ek⟩ := List.mem_map.mp hm
      obtain ⟨i, hi⟩ := List.mem_iff_getElem?.mp pm
      obtain ⟨c', g1, g2, g3⟩ := left i p hi ek
      refine none_ (c' - c) i (by omega) ?_ ((hashAt i p hi).trans ((congrArg (nhash P w) ek).trans hH))
      rw [jq, show c + (c' - c) = c' by omega]
      exact g3
end
end L2
namespace L2
open PySem PySem.Spec PyProof.Rows
section
variable {P : Program} {w : World} {A : Around} {E : Value → Shared → Prop} {s : Shared}
variable {a : Addr} {L : List (Addr × NestedKey)} {es : Array (Int × Value)} {ep : Nat} {t : SetTable}
theorem StN.find (R : StN P w s.heap a L es ep t) {x : Addr} {k : NestedKey} (hx : IsN P w s.heap k x) (hu : A.units + 8 < cLine) {Q : SetFound → Shared → Prop}
    (hin : k ∈ L.map (·.2) → Q (.there none) s) (hout : ∀ K, k ∉ L.map (·.2) → EndAt t (nhash P w k) K → Q (.free (way t.mask (nhash P w k) K) false) s) :
    wpAny (model P w) A (setSearch a (.ref x) (nhash P w k) true) Q E s := by
  have room := R.room
  obtain ⟨K, fK, EK⟩ := R.tab.stop (by rw [List.length_map]; omega) (nhash P w k)
  have big := R.mask.turns
  unfold setSearch
  refine R.seek hx hu fK EK hin (fun h => hout K h EK) 100000 0 none rfl (Nat.zero_le _) (by omega) fun i p hp ek => ?_
  have il : i < t.place.toList.length := by
    have := (List.getElem?_eq_some_iff.mp hp).1
    rw [Array.length_toList, R.len]
    exact this
  obtain ⟨c, hc, e⟩ := R.tab.ahead (i := i) EK (by rw [List.getElem?_map, hp, ← ek]; rfl) (List.getElem?_eq_getElem il)
  exact ⟨c, Nat.zero_le _, hc, by rw [List.getElem?_eq_getElem il, e]⟩
/-- laid anew -/
theorem relayN {o : Obj} (ho : s.heap.get? a = some o) (hex : o.ExactSet) (hd : o.data = .set es ep t) (rows : es.toList = rowsN P w L) (ln : t.place.size = L.length) (dm : t.dummies = #[]) (rm : L.length ≤ t.mask)
    (nd : (L.map (·.2)).Nodup) (tup : ∀ p ∈ L, IsN P w s.heap p.2 p.1) (pl : t.plain = true) (ld : w.params.followText "set-order" = true ∨ t.led = true) {wanted M : Nat}
    (hw : SetTable.sizeAbove wanted = M + 1) (hM : MkS M) (hn : L.length * 5 < M * 3) {Q : Unit → Shared → Prop}
    (hQ : ∀ h' L' es' ep' t', Heap.SameBut a s.heap h' → StN P w h' a L' es' ep' t' → L'.Perm L → Q () { s with heap := h' }) : wpAny (model P w) A (setRelay a wanted) Q E s := by
  have sz := rowsN_size rows
  have M1 := hM.rd.le
  obtain ⟨t', order, e, pm, T, em, el, ep'⟩ := hM.rd.anew t (hs := es.map (·.1)) (wanted := wanted) (by rw [hw]; rfl) (by rw [Array.size_map, sz]; omega)
  rw [Array.size_map, sz] at pm
  obtain ⟨L', r1, r2, r3⟩ := orderN_rows L es order rows pm
  rw [← r3] at T
  have sz2 : (order.filterMap (es[·]?)).size = es.size := by rw [rowsN_size r1, r2.length_eq, sz]
  rw [setRelay_eq]
  refine wpAny_bind (wpAny_setState_of ho hd (by rw [sz]; exact fits_of dm ln rm) ?_)
  dsimp only
  refine wp_if_neg (by rw [sizeLine_eq]; omega) ?_
  try refine wpAny_bind (wpAny_pure ?_)
  rw [e]
  dsimp only
  refine wpAny_bind ?_
  refine wp_if_neg (by rw [sz2]; simp) ?_
  try refine wpAny_bind (wpAny_pure ?_)
  refine wpAny_pure ?_
  dsimp only
  refine wpAny_storeSet_of ho hd ?_ (by rw [sz2, sz, sizeLine_eq]; omega)
  have but : Heap.SameBut a s.heap (s.heap.update a (Obj.putSet (order.filterMap (es[·]?)) t')) := Heap.SameBut.update ..
  exact hQ _ L' _ (ep + 1) t' but ⟨⟨_, store_at ho hd, ⟨hex.1, hex.2.1, hex.2.2⟩, rfl⟩, r1, T, (r2.map (·.2)).nodup_iff.mpr nd, fun p hp => isN_same (tup p (r2.mem_iff.mp hp)) ho hd but, by rw [ep']; exact pl, by rw [el]; exact ld, by rw [r2.length_eq, em]; exact hn, by rw [em]; exact hM⟩ r2
theorem StN.add (R : StN P w s.heap a L es ep t) {x : Addr} {k : NestedKey} (hx : IsN P w s.heap k x) (hu : A.units + 8 < cLine) (few : L.length ≤ 1200) {Q : Bool → Shared → Prop}
    (hQ : ∀ b h' L' es' ep' t', Heap.SameBut a s.heap h' → StN P w h' a L' es' ep' t' → (k ∈ L.map (·.2) → L' = L) → (k ∉ L.map (·.2) → L'.Perm ((x, k) :: L)) → Q b { s with heap := h' }) :
    wpAny (model P w) A (setAddHashed a (.ref x) (nhash P w k)) Q E s := by
  obtain ⟨o, ho, hex, hd⟩ := R.ob
  have sz := R.size
  have room := R.room
  unfold setAddHashed
  refine wpAny_holding ?_
  rw [show (100000 : Nat) = 99999 + 1 from rfl, setAddHashedIn_succ]
  refine wpAny_bind (wpAny_setState_of ho hd R.fits ?_)
  dsimp only
  refine wp_if_neg (by simp [byScan, Value.scannable]) ?_
  try refine wpAny_bind (wpAny_pure ?_)
  refine wpAny_bind (R.find hx hu (fun there => ?_) fun K new EK => ?_)
  · dsimp only
    exact wpAny_pure (hQ false s.heap L es ep t (Heap.SameBut.refl a s.heap) R (fun _ => rfl) fun z => absurd there z)
  dsimp only
  refine wpAny_bind (wpAny_setState_of ho hd R.fits ?_)
  dsimp only
  have pl1 : (t.put (way t.mask (nhash P w k) K)).1.plain = true := R.plain
  have ld1 : w.params.followText "set-order" = true ∨ (t.put (way t.mask (nhash P w k) K)).1.led = true := R.led
  have mk1 : (t.put (way t.mask (nhash P w k) K)).1.mask = t.mask := rfl
  have pe : (t.put (way t.mask (nhash P w k) K)).2 = SetTable.below t.place (way t.mask (nhash P w k) K) := rfl
  obtain ⟨pb, T1, fl⟩ := R.tab.more EK pe
  generalize t.put (way t.mask (nhash P w k) K) = tp at *
  obtain ⟨t1, p⟩ := tp
  dsimp only at pl1 ld1 mk1 pe pb T1 fl ⊢
  clear pe
  rw [List.length_map] at pb fl
  first
    | (refine wpAny_bind ?_; refine wp_if_pos pl1 ?_; refine hashByN hx ?_)
    | refine wp_if_pos pl1 (wpAny_bind (hashByN hx ?_))
  simp only [if_true]
  have rows1 : (SetTable.insertAt es p (nhash P w k, Value.ref x)).toList = rowsN P w (L.take p ++ (x, k) :: L.drop p) := by rw [SetTable.toList_insertAt, rowsN_put, R.rows]
  have pm := put_perm L p (x, k)
  have hs1 : (L.take p ++ (x, k) :: L.drop p).map (fun q => nhash P w q.2) = (L.map fun q => nhash P w q.2).take p ++ nhash P w k :: (L.map fun q => nhash P w q.2).drop p := by rw [List.map_append, List.map_cons, List.map_take, List.map_drop]
  rw [← hs1] at T1
  generalize SetTable.insertAt es p (nhash P w k, Value.ref x) = es1 at *
  generalize L.take p ++ (x, k) :: L.drop p = L1 at *
  have ln1 : L1.length = L.length + 1 := pm.length_eq
  have nd1 : (L1.map (·.2)).Nodup := (pm.map (·.2)).nodup_iff.mpr (List.nodup_cons.mpr ⟨new, R.nd⟩)
  have sz1 : es1.size = L.length + 1 := (rowsN_size rows1).trans ln1
  refine wpAny_bind (wpAny_storeSet_of ho hd ?_ (by rw [sz1, sizeLine_eq]; omega))
  have but : Heap.SameBut a s.heap (s.heap.update a (Obj.putSet es1 t1)) := Heap.SameBut.update ..
  have ho1 := store_at (es' := es1) (t' := t1) ho hd
  generalize s.heap.update a (Obj.putSet es1 t1) = h1 at *
  have tup1 : ∀ q ∈ L1, IsN P w h1 q.2 q.1 := fun q hq => by
    rcases List.mem_cons.mp (pm.mem_iff.mp hq) with rfl | hq
    · exact isN_same hx ho hd but
    · exact isN_same (R.tup q hq) ho hd but
  have full : t1.tooFull = decide ((L.length + 1) * 5 ≥ t.mask * 3) := by
    unfold SetTable.tooFull
    rw [fl, mk1]
  by_cases hf : (L.length + 1) * 5 ≥ t.mask * 3
  · first
      | (refine wpAny_bind ?_; refine wp_if_pos (by rw [full]; simp [hf]) ?_)
      | (refine wp_if_pos (by rw [full]; simp [hf]) ?_; refine wpAny_bind ?_)
    obtain ⟨M, g1, g2, g3⟩ := R.mask.grow few room hf
    rw [sz]
    refine relayN (s := { s with heap := h1 }) ho1 ⟨hex.1, hex.2.1, hex.2.2⟩ rfl rows1 (T1.len.trans (List.length_map ..)) T1.dum (by rw [ln1, mk1]; omega) nd1 tup1 pl1 ld1 g1 g2 (by rw [ln1]; exact g3) ?_
    intro h2 L2 es2 ep2 t2 but2 R2 pm2
    exact wpAny_pure (hQ true h2 L2 es2 ep2 t2 (but.trans but2) R2 (fun z => absurd z new) fun _ => pm2.trans pm)
  · first
      | refine wp_if_neg (by rw [full]; simp [hf]) ?_
      | (refine wpAny_bind ?_; refine wp_if_neg (by rw [full]; simp [hf]) ?_; refine wpAny_pure ?_)
    exact wpAny_pure (hQ true h1 L1 es1 (ep + 1) t1 but ⟨⟨_, ho1, ⟨hex.1, hex.2.1, hex.2.2⟩, rfl⟩, rows1, T1, nd1, tup1, pl1, ld1, by rw [ln1, mk1]; omega, by rw [mk1]; exact R.mask⟩ (fun z => absurd z new) fun _ => pm)
end
end L2
namespace L2
open PySem PySem.Spec PyProof.Rows
/-- whatever of ks has unlike keys is small -/
def FewN (ks : List (Addr × NestedKey)) : Prop := ∀ L : List (Addr × NestedKey), (∀ p ∈ L, p ∈ ks) → (L.map (·.2)).Nodup → L.length ≤ 1200
/-- L: of ks, with each key that the first i have -/
structure KeptN (ks : List (Addr × NestedKey)) (i : Nat) (L : List (Addr × NestedKey)) : Prop where
  sub : ∀ p ∈ L, p ∈ ks
  all : ∀ (j : Nat) (p : Addr × NestedKey), j < i → ks[j]? = some p → p.2 ∈ L.map (·.2)
theorem KeptN.step {ks L L' : List (Addr × NestedKey)} {i : Nat} {x : Addr × NestedKey} (g : KeptN ks i L) (e : ks[i]? = some x) (same : x.2 ∈ L.map (·.2) → L' = L) (more : x.2 ∉ L.map (·.2) → L'.Perm (x :: L)) : KeptN ks (i + 1) L' := by
  by_cases c : x.2 ∈ L.map (·.2)
  · rw [same c]
    refine ⟨g.sub, fun j p hj hp => ?_⟩
    by_cases z : j = i
    · subst z; rw [e] at hp; cases hp; exact c
    · exact g.all j p (by omega) hp
  · have pm := more c
    refine ⟨fun p hp => ?_, fun j p hj hp => ?_⟩
    · rcases List.mem_cons.mp (pm.mem_iff.mp hp) with rfl | h
      · exact List.mem_of_getElem? e
      · exact g.sub p h
    · refine (pm.map (·.2)).mem_iff.mpr ?_
      rw [List.map_cons]
      by_cases z : j = i
      · subst z; rw [e] at hp; cases hp; exact List.mem_cons_self
      · exact List.mem_cons_of_mem _ (g.all j p (by omega) hp)
section
variable {P : Program} {w : World}
theorem StN.keep {h h' : Heap} {a : Addr} {L : List (Addr × NestedKey)} {es : Array (Int × Value)} {ep : Nat} {t : SetTable} (R : StN P w h a L es ep t) (ha : ∀ o, h.get? a = some o → h'.get? a = some o) (ht : ∀ p ∈ L, IsN P w h' p.2 p.1) : StN P w h' a L es ep t := by
  obtain ⟨o, ho, hex, hd⟩ := R.ob
  exact ⟨⟨o, ha o ho, hex, hd⟩, R.rows, R.tab, R.nd, ht, R.plain, R.led, R.room, R.mask⟩
theorem stN_fresh {h : Heap} {a : Addr} (ho : h.get? a = some { cls := .type "set", dict := none, data := .set #[] 0 (.fresh 0 0 (!w.params.followText "set-order")) }) : StN P w h a [] #[] 0 (.fresh 0 0 (!w.params.followText "set-order")) := by
  have R := setTR_fresh (P := P) ho
  have mk : MkS (SetTable.fresh 0 0 (!w.params.followText "set-order")).mask := by
    rcases R.tab.mok with e | e | e
    · exact .inl e
    · exact .inr (.inl e)
    · exact .inr (.inr (.inl e))
  exact ⟨R.ob, R.rows, ⟨R.tab.ris, R.tab.dm, R.tab.sz, mk.rd, R.tab.bd, R.tab.reach⟩, List.nodup_nil, fun p hp => (nomatch hp), R.plain, R.led, R.room, mk⟩
end
section
variable {P : Program} {w : World} {A : Around} {E : Value → Shared → Prop}
/-- the update's loop -/
theorem manyN_loop {I S : Addr} {fp wr : List Addr} {G : Array GenState → Array GenState → Prop} {n : Nat} {Pv : Nat → Value → Prop} {St : Nat → Shared → Prop} {R : Result → Shared → Prop} {h0 : Heap} {ks : List (Addr × NestedKey)}
    (W : WalksS P w A.in1 I fp wr G n Pv St) (far : S ∉ fp) (many : n = ks.length) (few : FewN ks) (val : ∀ i v, Pv i v → ∃ p, ks[i]? = some p ∧ v = .ref p.1)
    (tup : ∀ p ∈ ks, IsN P w h0 p.2 p.1) (new : h0.get? S = none) (wnew : ∀ b ∈ wr, h0.get? b = none) (room : A.in1.units + 8 < cLine) :
    ∀ (k i : Nat) (s : Shared), i + k = n → St i s → (∀ b o, h0.get? b = some o → s.heap.get? b = some o) → (∃ L es ep t, StN P w s.heap S L es ep t ∧ KeptN ks i L) →
      (∀ s' L es ep t, Moved (S :: wr) G s s' → StN P w s'.heap S L es ep t → KeptN ks n L → (∀ b o, h0.get? b = some o → s'.heap.get? b = some o) → R (.ok (.ret .none)) s') →
      codeAny (model P w) A (.builtin "set.update.loop" ⟨[.ref S, .ref I], []⟩) R s := by
  have notw : S ∉ wr := fun h => far (W.sub _ h)
  have stays : ∀ {s s' : Shared}, Moved wr G s s' → (∀ b o, h0.get? b = some o → s.heap.get? b = some o) → ∀ b o, h0.get? b = some o → s'.heap.get? b = some o := fun m h b o e => by
    refine m.heap b o (fun hb => ?_) (h b o e)
    rw [wnew b hb] at e
    exact nomatch e
  intro k
  induction k with
  | zero =>
    rintro i s hi st old ⟨L, es, ep, t, T, g⟩ fin
    obtain rfl : i = n := by omega
    refine codeAny_builtin F.entry_set_update_loop ?_
    rw [Around.under_plainId F.plain_set_update_loop _]
    show wpAny _ A.in1 (pyNext (.ref I) >>= _) _ _ s
    refine wpAny_bind (W.done s _ _ st fun s' m => ?_)
    show wpAny _ A.in1 (ret Value.none) _ _ s'
    have old' := stays m old
    refine wpAny_pure (fin s' L es ep t (m.mono fun b hb => List.mem_cons_of_mem _ hb) (T.keep (fun o e => m.heap S o notw e) fun p hp => isN_keep (tup p (g.sub p hp)) old') g old')
  | succ k ih =>
    rintro i s hi st old ⟨L, es, ep, t, T, g⟩ fin
    refine codeAny_builtin F.entry_set_update_loop ?_
    rw [Around.under_plainId F.plain_set_update_loop _]
    show wpAny _ A.in1 (pyNext (.ref I) >>= _) _ _ s
    refine wpAny_bind (W.item i s _ _ (by omega) st fun v s1 pv st1 m => ?_)
    obtain ⟨p, hp, rfl⟩ := val i v pv
    have old1 := stays m old
    have T1 : StN P w s1.heap S L es ep t := T.keep (fun o e => m.heap S o notw e) fun q hq => isN_keep (tup q (g.sub q hq)) old1
    have tp : IsN P w s1.heap p.2 p.1 := isN_keep (tup p (List.mem_of_getElem? hp)) old1
    show wpAny _ A.in1 (holding [Value.ref p.1] (setAdd S (.ref p.1)) >>= _) _ _ s1
    refine wpAny_bind (wpAny_holding ?_)
    unfold setAdd
    refine wpAny_holding (wpAny_bind ((nestedKind P w).pyHash room tp.1 ?_))
    refine StN.add (s := { s1 with toks := s1.toks + (nestedKind P w).draws p.2 }) T1 tp room (few L g.sub T.nd) fun b h2 L2 es2 ep2 t2 sb T2 c1 c2 => ?_
    have old2 : ∀ b o, h0.get? b = some o → h2.get? b = some o := fun b o e => by
      refine (sb.2 b fun z => ?_).trans (old1 b o e)
      rw [z, new] at e
      exact nomatch e
    refine wpAny_pure ⟨plainId_quiet F.plain_set_update_loop _, ih (i + 1) _ (by omega) (W.frame _ s1 _ _ st1 (Nat.le_add_right _ _) fun b hb o e => ?_) old2 ⟨L2, es2, ep2, t2, T2, g.step hp c1 c2⟩ fun s3 L3 es3 ep3 t3 m3 T3 g3 old3 => ?_⟩
    · rw [sb.2 b fun z : b = S => far (by rw [← z]; exact hb)]
      exact e
    · refine fin s3 L3 es3 ep3 t3 (Moved.trans W.gtrans ((m.mono fun b hb => List.mem_cons_of_mem _ hb).then_heap (Nat.le_add_right _ _) fun b o hb e => ?_) m3) T3 g3 old3
      rw [sb.2 b fun z : b = S => hb (by rw [z]; exact List.mem_cons_self)]
      exact e
end
end L2
namespace L2
open PySem PySem.Spec PyProof.Rows
section
variable {P : Program} {w : World} {A : Around} {E : Value → Shared → Prop} {s : Shared}
/-- set(list) -/
theorem manyN_call {l : Addr} {its : Array Value} (ks : List (Addr × NestedKey)) {Q : Value → Shared → Prop} (calm : A.handled = none) (hl : s.heap.IsList l its) (he : its.toList = ks.map fun p => Value.ref p.1)
    (tup : ∀ p ∈ ks, IsN P w s.heap p.2 p.1) (few : FewN ks) (room : A.units + 11 < cLine)
    (fin : ∀ (h' : Heap) (tk : Nat) L es ep t, StN P w h' s.heap.objs.size L es ep t → KeptN ks ks.length L → (∀ b o, s.heap.get? b = some o → h'.get? b = some o) → Q (.ref s.heap.objs.size) { s with heap := h', toks := tk }) :
    wpAny (model P w) A (call (.type "set") [.ref l]) Q E s := by
  have sz : its.size = ks.length := by rw [← Array.length_toList, he, List.length_map]
  obtain ⟨c, tl, hmro⟩ := F.called_set.mro
  have hmade := F.called_set.made
  have hsub := F.called_set.sub
  have h1 := F.called_set.notType
  have h2 := F.called_set.canCreate
  have hct := F.typeCall_set_1 (.ref l)
  refine wpAny_call (codeAny_of_tree ?_)
  show wpAny _ _ (callAny (.type "set") _) _ _ _
  refine wpAny_pure ⟨Code.quiet_builtin _ (by decide +kernel), codeAny_builtin F.entry_type_call ?_⟩
  rw [Around.under_plain (weight_type_call_type "set" [.ref l] []) rfl]
  repeat (any_goals (first | assumption | wp_step))

  refine codeAny_mono (code_set_led1 (.ref l) (E := E) (Q₁ := fun o s1 => o = .ref s.heap.objs.size ∧ s1 = { s with heap := s.heap.push (set02 w) }) ⟨rfl, rfl⟩) fun r s1 hr => ?_
  cases r with
  | error e => exact hr
  | ok fl =>
    cases fl with
    | ret obj =>
      obtain ⟨rfl, rfl⟩ := hr
      have at_ : (s.heap.push (set02 w)).get? s.heap.objs.size = some (set02 w) := Heap.get?_push_size _ rfl
      have ty : Shared.TypeIs { s with heap := s.heap.push (set02 w) } (.ref s.heap.objs.size) "set" := ⟨_, at_, rfl⟩
      have hli := F.called_set.init.lookup
      have hbi := F.called_set.init.bind (.ref s.heap.objs.size)
      repeat (any_goals (first | assumption | wp_step))

      refine codeAny_mono (codeAny_call_builtin (R := wants (fun r s2 => r = .none ∧ ∃ h' tk L es ep t, s2 = { s with heap := h', toks := tk } ∧ StN P w h' s.heap.objs.size L es ep t ∧ KeptN ks ks.length L ∧
          (∀ b o, s.heap.get? b = some o → h'.get? b = some o)) E) F.called_set.init.plain F.entry_set_init (check_set_init_1 ty ?_)) fun r2 s2 hr2 => ?_
      · obtain ⟨⟨oc, od, oda, osl⟩, hol, hc, nl, hd⟩ := hl
        have lt : l < s.heap.objs.size := Heap.lt_size hol
        simp only at hc hd
        subst hc; subst hd
        have hol' : (s.heap.push (set02 w)).get? l = some { cls := .type "list", dict := od, data := .seq its nl, slots := osl } := Heap.get?_push_of_some _ hol
        have hsls := F.sub_list_set
        have hslf := F.sub_list_frozenset
        have hne : (Value.type "list" == Value.type "dict") = false := by decide
        have hl1 : (s.heap.push (set02 w)).IsList l its := ⟨_, hol', rfl, nl, rfl⟩
        unfold Builtin.«set.__init__» noKeywords Builtin.Frozenset.updateFrom
        generalize hPI : pyIter = PI
        wp_walk
        subst hPI

        refine wpAny_pyIter_list hl1 ?_
        refine wpAny_bind (wpAny_runValue ?_)
        have calm3 : A.in1.in1.in1.handled = none := by simp [calm]
        have psz : (s.heap.push (set02 w)).objs.size = s.heap.objs.size + 1 := Heap.size_push ..
        have neI : l ≠ (s.heap.push (set02 w)).objs.size := by rw [psz]; exact Nat.ne_of_lt (Nat.lt_succ_of_lt lt)
        have far : s.heap.objs.size ∉ [(s.heap.push (set02 w)).objs.size, l] := by
          rw [psz]
          simp only [List.mem_cons, List.not_mem_nil, or_false, not_or]
          exact ⟨Nat.ne_of_lt (Nat.lt_succ_self _), Nat.ne_of_gt lt⟩
        have val : ∀ (i : Nat) (v : Value), its[i]? = some v → ∃ p, ks[i]? = some p ∧ v = .ref p.1 := fun i v hv => by
          have q : its.toList[i]? = some v := by rw [Array.getElem?_toList]; exact hv
          rw [he, List.getElem?_map] at q
          obtain ⟨p, hp, e⟩ := Option.map_eq_some_iff.mp q
          exact ⟨p, hp, e.symm⟩
        have new : ∀ b, s.heap.objs.size ≤ b → s.heap.get? b = none := fun b hb => by
          cases q : s.heap.get? b with
          | none => rfl
          | some o => exact absurd (Nat.lt_of_lt_of_le (Heap.lt_size q) hb) (Nat.lt_irrefl _)
        refine manyN_loop (S := s.heap.objs.size) (ks := ks) (h0 := s.heap) ((Walks.list calm3 _ l neI its).toS) far sz few val tup (new _ (Nat.le_refl _)) (fun b hb => new b (by
            rw [List.mem_singleton.mp hb, psz]; exact Nat.le_succ _)) room its.size 0 _ (by omega) ⟨⟨_, Heap.get?_push_size _ rfl, rfl, rfl⟩, (hl1.push _)⟩ (fun b o e => Heap.get?_push_of_some _ (Heap.get?_push_of_some _ e)) ?made ?end_
        case made => exact ⟨[], #[], 0, _, stN_fresh (Heap.get?_push_of_some _ at_), fun p hp => (nomatch hp), fun j p hj => absurd hj (Nat.not_lt_zero _)⟩
        case end_ =>
          intro s' L es ep t m T g old
          obtain ⟨h', g2, d', tk', os'⟩ := s'
          obtain rfl : g2 = s.gens := m.gens
          obtain rfl : d' = s.drawn := m.drawn
          obtain rfl : os' = s.os := m.os
          show wpAny _ _ _ _ _ _
          refine wpAny_pure ?_
          show wpAny _ _ (ret Value.none) _ _ _
          rw [sz] at g
          exact wpAny_pure ⟨rfl, h', tk', L, es, ep, t, rfl, T, g, old⟩
      · cases r2 with
        | error e => exact hr2
        | ok fl2 =>
          cases fl2 with
          | ret r =>
            obtain ⟨rfl, h', tk, L, es, ep, t, rfl, T, g, old⟩ := hr2
            repeat (any_goals (first | assumption | wp_step))
            exact fin _ _ _ _ _ _ T g old
          | _ => exact hr2.elim
    | _ => exact hr.elim
end
end L2
/-! len(set(x)) of a list of nested tuples of ints -/
namespace L2
open PySem PySem.Spec PyProof.Rows
structure StN0 (P : Program) (w : World) (h : Heap) (a : Addr) (L : List (Addr × NestedKey)) : Prop where
  few : L.length ≤ 1200
  ex : ∃ (es : Array (Int × Value)) (ep : Nat) (t : SetTable), (∃ o, h.get? a = some o ∧ o.ExactSet ∧ o.data = .set es ep t) ∧ t.fits es.size = true ∧ es.size = L.length
def StNO (P : Program) (w : World) (a : Addr) (L : List (Addr × NestedKey)) : HO := .ext fun h => StN0 P w h a L
section
variable {P : Program} {w : World} {h : Heap} {a : Addr} {L : List (Addr × NestedKey)}
theorem StN.c0 {s : Shared} {es : Array (Int × Value)} {ep : Nat} {t : SetTable} (R : StN P w s.heap a L es ep t) (few : L.length ≤ 1200) : StN0 P w s.heap a L := ⟨few, es, ep, t, R.ob, R.fits, R.size⟩
theorem stNO_new {H : Hp} (R : StN0 P w h a L) : ObjOk P w H h a (StNO P w a L) := by
  have ⟨_, _, _, _, ⟨o, ho, _⟩, _⟩ := R
  refine ⟨R, ⟨o, ho⟩, fun h1 h2 p k => ?_⟩
  have ⟨f, es', ep', t', ⟨o', ho', r'⟩, q'⟩ : StN0 P w h1 a L := p
  exact ⟨f, es', ep', t', ⟨o', k o' ho', r'⟩, q'⟩
end
section
variable {X : Cx}
def rLenN (K : PySem.W.Frag) (P : Program) (w : World) : List V → Hp → VK → Prop := fun vs H Q => ∃ (a : Addr) (L : List (Addr × NestedKey)), vs = [V.ref a] ∧ H a = some (StNO P w a L) ∧ Q (.int L.length) H
theorem cr_lenN : CallR X (.builtin "len") (rLenN X.K X.prog X.w) := by
  intro pins s σ H vs us Q I r h
  obtain ⟨a, L, rfl, ha, q⟩ := h
  have R0 : StN0 X.prog X.w s.heap a L := (I.hok a _ ha).1
  obtain ⟨few, es, ep, t, ⟨o, ho, hex, hd⟩, hf, hsz⟩ := R0
  rw [Vals.ref1 r]
  refine call_len_set ho hex hd hf (by omega) ⟨.int L.length, H, I.tok _, ⟨_, by rw [hsz]⟩, q⟩
end
end L2
namespace DL
open PySem PySem.Spec PyProof.Rows L2
mutual
theorem onI_kOk : ∀ (n : Nat) (d : Dat), kOk n d = true → onI (nkD d) = true
  | n, .int i, _ => rfl
  | n + 1, .tup ds, h => by
    unfold kOk at h
    unfold nkD onI
    exact onIs_kOk n ds h
  | 0, .tup ds, h => by unfold kOk at h; exact nomatch h
  | n, .non, h => by unfold kOk at h; exact nomatch h
  | n, .bl _, h => by unfold kOk at h; exact nomatch h
  | n, .str _, h => by unfold kOk at h; exact nomatch h
  | n, .lst _, h => by unfold kOk at h; exact nomatch h
  | n, .dic _, h => by unfold kOk at h; exact nomatch h
theorem onIs_kOk : ∀ (n : Nat) (ds : List Dat), kOkL n ds = true → onIs (nkL ds) = true
  | n, [], _ => rfl
  | n, d :: ds, h => by
    unfold kOkL at h
    rw [Bool.and_eq_true] at h
    unfold nkL onIs
    rw [onI_kOk n d h.1, onIs_kOk n ds h.2]
    rfl
end
def rSetN (K : PySem.W.Frag) (P : Program) (w : World) : List V → Hp → VK → Prop := fun xs H Q => ∃ (l : Addr) (zs : List (Dat × Addr)), xs = [V.ref l] ∧ SqL K H l (zs.map fun p => V.ref p.2) ∧ (∀ p ∈ zs, kOk 6 p.1 = true ∧ RdD K H p.1 (.ref p.2)) ∧ zs.length ≤ 1200 ∧
  ∀ (a : Addr) (L : List (Addr × NestedKey)), H a = none → (L.map (·.2)).Nodup → (∀ k : NestedKey, k ∈ L.map (·.2) ↔ k ∈ zs.map fun p => nkD p.1) → Q (.ref a) (upd H a (StNO P w a L))
theorem cr_setN {X : Cx} (hc : X.calm = true) (hu : X.A.units + 64 < cLine) : CallR X (.type "set") (rSetN X.K X.prog X.w) := by
  intro pins s σ H xs us Q I r h
  obtain ⟨l, zs, rfl, hl, hk, hf, q⟩ := h
  rw [Vals.ref1 r]
  obtain ⟨its, rv, pl, _⟩ := I.list hl
  have e1 : (zs.map fun p => V.ref p.2) = (zs.map fun p => (p.2, nkD p.1)).map fun p => V.ref p.1 := by rw [List.map_map]; rfl
  rw [e1] at rv
  have few : FewN (zs.map fun p => (p.2, nkD p.1)) := fun L hL nd => by
    have := nodup_fits2 (L.map (·.2)) ((zs.map fun p => (p.2, nkD p.1)).map (·.2)) nd fun x hx => by
      obtain ⟨y, hy, rfl⟩ := List.mem_map.mp hx
      exact List.mem_map_of_mem (hL y hy)
    rw [List.length_map, List.length_map, List.length_map] at this
    omega
  have refs : ∀ (ks : List (Addr × NestedKey)) {us : List Value}, Vals (ks.map fun p => V.ref p.1) us → us = ks.map fun p => Value.ref p.1 := by
    intro ks
    induction ks with
    | nil => intro us h; cases h; rfl
    | cons k ks ih =>
      intro us h
      cases h with
      | cons h1 h2 => 
        have h1 : _ = Value.ref k.1 := h1
        rw [h1, ih h2]
        rfl
  refine manyN_call (P := X.prog) (w := X.w) (zs.map fun p => (p.2, nkD p.1)) (I.ok.hd hc) pl.isList (by simpa using refs _ rv) (fun p hp => ?_) few (by omega) fun h' tk L es ep t T g old => ?_
  · obtain ⟨z, hz, rfl⟩ := List.mem_map.mp hp
    obtain ⟨k1, k2⟩ := hk z hz
    obtain ⟨a1, a2⟩ := key_is I 6 z.1 _ (.ref z.2) k1 k2 rfl
    exact ⟨⟨a1, Nat.le_trans a2 (by decide)⟩, onI_kOk 6 z.1 k1⟩
  · refine ⟨.ref s.heap.objs.size, upd H s.heap.objs.size (StNO X.prog X.w s.heap.objs.size L), I.laid (t' := tk) old (Nat.le_refl _) (stNO_new (StN.c0 (s := { s with heap := h' }) T (few L g.sub T.nd))), rfl, q _ L (I.hok.fresh (Nat.le_refl _)) T.nd fun k => ⟨fun h => ?_, fun h => ?_⟩⟩
    · obtain ⟨p, hp, rfl⟩ := List.mem_map.mp h
      obtain ⟨z, hz, rfl⟩ := List.mem_map.mp (g.sub p hp)
      exact List.mem_map.mpr ⟨z, hz, rfl⟩
    · obtain ⟨z, hz, rfl⟩ := List.mem_map.mp h
      obtain ⟨j, hj⟩ := List.getElem?_of_mem (List.mem_map_of_mem (f := fun p : Dat × Addr => (p.2, nkD p.1)) hz)
      refine g.all j (z.2, nkD z.1) ?_ hj
      by_cases c : j < (zs.map fun p => (p.2, nkD p.1)).length
      · exact c
      · rw [List.getElem?_eq_none (by omega)] at hj; exact nomatch hj
variable {K : PySem.W.Frag}
def isKey (d : Dat) : Bool := match d with
  | .tup _ => kOk 6 d
  | _ => false
theorem keys_zip {H : Hp} : ∀ {ds : List Dat} {vs : List V}, ds.all isKey = true → RdL K H ds vs → ∃ zs : List (Dat × Addr), zs.map (·.1) = ds ∧ vs = (zs.map fun z => V.ref z.2) ∧ ∀ z ∈ zs, kOk 6 z.1 = true ∧ RdD K H z.1 (.ref z.2)
  | [], vs, _, h => by
    unfold RdL at h
    subst h
    exact ⟨[], rfl, rfl, fun z hz => nomatch hz⟩
  | d :: ds, vs, ha, h => by
    unfold RdL at h
    obtain ⟨v, r, rfl, h1, h2⟩ := h
    rw [List.all_cons, Bool.and_eq_true] at ha
    obtain ⟨zs, e1, rfl, e2⟩ := keys_zip ha.2 h2
    cases d with
    | tup xs =>
      have h1' := h1
      unfold RdD at h1'
      obtain ⟨a, us, rfl, _⟩ := h1'
      refine ⟨(.tup xs, a) :: zs, by rw [List.map_cons, e1], rfl, fun z hz => ?_⟩
      rcases List.mem_cons.mp hz with rfl | hz
      · exact ⟨ha.1, h1⟩
      · exact e2 z hz
    | _ => exact nomatch ha.1
/-- len(set(x)) of a list of keys -/
def dLenKeys (a : DE) : DE := fun ρ κ ε => a ρ (fun x => asL x fun ds => ds.all isKey = true ∧ ds.length ≤ 1200 ∧ ∀ L : List NestedKey, L.Nodup → (∀ k, k ∈ L ↔ k ∈ ds.map nkD) → κ (.v (.int (L.length : Int)))) ε
section
variable {X : Cx} {W : WX} {e : Expr} {d : DE} {p p2 pos pos2 : Pos}
theorem me_lenKeys {k : Nat} (C : Cn X W k) (hm : X.mg "len" = none) (hm2 : X.mg "set" = none) (h : ME X W e d) (hg : Gl X "len" := by rfl) (hg2 : Gl X "set" := by rfl)
    (he : starEach [e] X.env = (false, eval e X.env) :: starEach [] X.env := by rfl) (hpl : (backTo pos2 (starEach [] X.env)).any (·.1) = false := by rfl)
    (he2 : starEach [.Call (.Name "set" p2) [e] [] pos2] X.env = (false, eval (.Call (.Name "set" p2) [e] [] pos2) X.env) :: starEach [] X.env := by rfl) (hpl2 : (backTo pos (starEach [] X.env)).any (·.1) = false := by rfl) :
    ME X W (.Call (.Name "len" p) [.Call (.Name "set" p2) [e] [] pos2] [] pos) (dLenKeys d) := by
  obtain ⟨t, pa, oa⟩ := h
  refine ⟨_, pe_callB cr_lenN hg hm PySem.boot_len (pa_cons (pe_callTy (cr_setN C.hc C.hr.units) hg2 hm2 (by decide +kernel) (pa_cons pa pa_nil he) (by decide) (by decide) he hpl) pa_nil he2) (by decide) (by decide) he2 hpl2, fun H0 G0 G ρ σ H Q κ ε R h hq hx => ?_⟩
  refine oa H0 G0 G ρ σ H _ _ ε R h (fun v H1 G1 r x1 h1 k1 => ?_) hx
  obtain ⟨ds, ed, k2⟩ := asL.of k1
  obtain ⟨hk, hlt, k3⟩ := k2
  have R1 := R.on x1
  obtain ⟨l, vs, ev0, b, c⟩ := h1.lst x1.s R1.ext.h ed
  subst ev0
  have hz := keys_zip (H := G1) hk c
  obtain ⟨zs, ez, ev, g1⟩ := hz
  have lz : zs.length = ds.length := by rw [← ez, List.length_map]
  have ek : ds.map nkD = zs.map fun p => nkD p.1 := by rw [← ez, List.map_map]; rfl
  have b' : SqL X.K H1 l (zs.map fun p => V.ref p.2) := by rw [← ev]; exact b
  have z1 : ∀ p ∈ zs, kOk 6 p.1 = true ∧ RdD X.K H1 p.1 (.ref p.2) := fun p hp => ⟨(g1 p hp).1, RdD.mono x1.s _ _ (g1 p hp).2⟩
  have z2 : zs.length ≤ 1200 := by rw [lz]; exact hlt
  refine ⟨l, zs, rfl, b', z1, z2, ?_⟩
  intro a L na nd hL
  have x2 := Ext.newH (o := StNO X.prog X.w a L) x1.s na
  refine ⟨a, L, rfl, upd_same, ?_⟩
  have k4 := k3 (L.map (·.2)) nd fun k => by rw [hL k, ek]
  rw [List.length_map] at k4
  exact hq _ _ G1 (.v (.int _)) (x1.trans x2) toI k4
end
end DL
/-! what divides two numbers -/
namespace Num
theorem gcd_fmod (a b : Int) : Int.gcd b (a.fmod b) = Int.gcd a b := by
  have e := Int.mul_fdiv_add_fmod a b
  refine Nat.dvd_antisymm ?_ ?_
  · refine Nat.dvd_gcd ?_ ?_
    · have h : ((Int.gcd b (a.fmod b) : Nat) : Int) ∣ b * a.fdiv b + a.fmod b := Int.dvd_add (Int.dvd_mul_of_dvd_left (Int.gcd_dvd_left _ _)) (Int.gcd_dvd_right _ _)
      rw [e] at h
      exact Int.ofNat_dvd_left.mp h
    · exact Int.ofNat_dvd_left.mp (Int.gcd_dvd_left _ _)
  · refine Nat.dvd_gcd ?_ ?_
    · exact Int.ofNat_dvd_left.mp (Int.gcd_dvd_right _ _)
    · refine Int.ofNat_dvd_left.mp ?_
      have : a.fmod b = a - b * a.fdiv b := by omega
      rw [this]
      exact Int.dvd_sub (Int.gcd_dvd_left _ _) (Int.dvd_mul_of_dvd_left (Int.gcd_dvd_right _ _))
theorem fmod_lt (a : Int) {b : Int} (h : b ≠ 0) : (a.fmod b).natAbs < b.natAbs := by
  rcases Int.lt_or_le 0 b with z | z
  · have h1 := Int.fmod_nonneg_of_pos a z
    have h2 := Int.fmod_lt_of_pos a z
    omega
  · have h1 := Int.fmod_nonneg_of_pos (-a) (show 0 < -b by omega)
    have h2 := Int.fmod_lt_of_pos (-a) (show 0 < -b by omega)
    have e1 := Int.mul_fdiv_add_fmod a b
    have e2 := Int.mul_fdiv_add_fmod (-a) (-b)
    rw [Int.neg_fdiv_neg, Int.neg_mul] at e2
    omega
theorem bez : ∀ (n : Nat) (a b : Int), b.natAbs < n → ∃ s t : Int, s * a + t * b = ((Int.gcd a b : Nat) : Int)
  | 0, a, b, h => (Nat.not_lt_zero _ h).elim
  | n + 1, a, b, h => by
    by_cases hb : b = 0
    · subst hb
      rw [Int.gcd_zero_right]
      rcases Int.le_total 0 a with z | z
      · exact ⟨1, 0, by omega⟩
      · exact ⟨-1, 0, by omega⟩
    · obtain ⟨s, t, e⟩ := bez n b (a.fmod b) (by have := fmod_lt a hb; omega)
      rw [gcd_fmod] at e
      refine ⟨t, s - t * a.fdiv b, ?_⟩
      have e2 := Int.mul_fdiv_add_fmod a b
      have : a.fmod b = a - b * a.fdiv b := by omega
      rw [this] at e
      rw [← e]; grind
theorem bezout (a b : Int) : ∃ s t : Int, s * a + t * b = ((Int.gcd a b : Nat) : Int) := bez (b.natAbs + 1) a b (by omega)
theorem gcd_pos (a : Int) {m : Int} (hm : m ≠ 0) : 0 < ((Int.gcd a m : Nat) : Int) := by
  have := Int.gcd_pos_of_ne_zero_right a hm
  omega
theorem gcd_ok (a : Int) {m : Int} (hm : 0 < m) : ∃ s t : Int, s * a + t * m = ((Int.gcd a m : Nat) : Int) ∧ 0 < ((Int.gcd a m : Nat) : Int) ∧ ((Int.gcd a m : Nat) : Int) ∣ a ∧ ((Int.gcd a m : Nat) : Int) ∣ m := by
  obtain ⟨s, t, e⟩ := bezout a m
  exact ⟨s, t, e, gcd_pos a (by omega), Int.gcd_dvd_left _ _, Int.gcd_dvd_right _ _⟩
open DL
structure Shares (a b g s t : Int) : Prop where
  g0 : 0 ≤ g
  e : s * a + t * b = g
  ga : g ∣ a
  gb : g ∣ b
  z : b = 0 → t = 0 ∧ s = (if a < 0 then -1 else if 0 < a then 1 else 0)
  nz : b ≠ 0 → 0 < g ∧ 0 ≤ s ∧ s < (b.natAbs : Int) / g
theorem abs_mul {x y : Int} : (x * y).natAbs = x.natAbs * y.natAbs := Int.natAbs_mul x y
theorem Shares.bt {a b g s t : Int} {k : Nat} (h : Shares a b g s t) (ha : Bt k a) (hb : Bt k b) (hk : 0 < k) : Bt k g ∧ Bt k s ∧ Bt (k + 1) t := by
  by_cases hz : b = 0
  · obtain ⟨h1, h2⟩ := h.z hz
    have hs : s.natAbs ≤ 1 := by rw [h2]; split <;> (try split) <;> decide
    have hg : g = s * a := by rw [← h.e, h1, hz]; simp
    refine ⟨ha.le_abs ?_, ?_, ?_⟩
    · rw [hg, abs_mul]
      have := Nat.mul_le_mul_right a.natAbs hs
      omega
    · rw [Bt.def]
      have : 2 ^ 1 ≤ 2 ^ k := Nat.pow_le_pow_right (by decide) hk
      omega
    · rw [h1, Bt.def]; exact Nat.pow_pos (by decide)
  · obtain ⟨g1, s0, s1⟩ := h.nz hz
    have hgb : g.natAbs ≤ b.natAbs := Nat.le_of_dvd (by omega) (Int.natAbs_dvd_natAbs.mpr h.gb)
    have hs : s.natAbs ≤ b.natAbs := by
      have : (b.natAbs : Int) / g ≤ b.natAbs := Int.ediv_le_self _ (by omega)
      omega
    refine ⟨hb.le_abs hgb, hb.le_abs hs, ?_⟩
    have e : t * b = g - s * a := by have := h.e; omega
    have e2 : t.natAbs * b.natAbs ≤ b.natAbs * (1 + a.natAbs) := by
      rw [← abs_mul, e]
      have h1 := Int.natAbs_sub_le g (s * a)
      rw [abs_mul] at h1
      have h2 := Nat.mul_le_mul_right a.natAbs hs
      rw [Nat.mul_add, Nat.mul_one]
      omega
    have e3 : t.natAbs ≤ 1 + a.natAbs := by
      rw [Nat.mul_comm] at e2
      exact Nat.le_of_mul_le_mul_left e2 (by omega)
    rw [Bt.def] at ha ⊢
    rw [Nat.pow_succ]
    have : 0 < 2 ^ k := Nat.pow_pos (by decide)
    omega
theorem Shares.uniq {a b g s t g' s' t' : Int} (h : Shares a b g s t) (h' : Shares a b g' s' t') : g = g' ∧ s = s' ∧ t = t' := by
  have e := h.e
  have e' := h'.e
  have g1 : g ∣ g' := by rw [← e']; exact Int.dvd_add (Int.dvd_mul_of_dvd_right h.ga) (Int.dvd_mul_of_dvd_right h.gb)
  have g2 : g' ∣ g := by rw [← e]; exact Int.dvd_add (Int.dvd_mul_of_dvd_right h'.ga) (Int.dvd_mul_of_dvd_right h'.gb)
  have gg : g = g' := Int.dvd_antisymm h.g0 h'.g0 g1 g2
  subst gg
  by_cases hb : b = 0
  · obtain ⟨z1, z2⟩ := h.z hb
    obtain ⟨z3, z4⟩ := h'.z hb
    exact ⟨rfl, by rw [z2, z4], by rw [z1, z3]⟩
  · obtain ⟨g0, s0, s1⟩ := h.nz hb
    obtain ⟨_, s0', s1'⟩ := h'.nz hb
    obtain ⟨A, eA⟩ := h.ga
    obtain ⟨B, eB⟩ := h.gb
    have eB' : (b.natAbs : Int) / g = B.natAbs := by
      have : (b.natAbs : Int) = g * (B.natAbs : Int) := by rw [eB, Int.natAbs_mul, Int.natCast_mul]; congr 1; omega
      rw [this, Int.mul_ediv_cancel_left _ (Int.ne_of_gt g0)]
    have one : s * A + t * B = 1 := by
      have : g * (s * A + t * B) = g * 1 := by rw [Int.mul_one]; conv => rhs; rw [← e, eA, eB]
                                               grind
      exact Int.eq_of_mul_eq_mul_left (Int.ne_of_gt g0) this
    have zero : (s - s') * A + (t - t') * B = 0 := by
      have : g * ((s - s') * A + (t - t') * B) = g * 0 := by
        have e1 : s * (g * A) + t * (g * B) = s' * (g * A) + t' * (g * B) := by rw [← eA, ← eB, e, e']
        grind
      exact Int.eq_of_mul_eq_mul_left (Int.ne_of_gt g0) this
    have dv : B ∣ s - s' := ⟨(s - s') * t - s * (t - t'), by grind⟩
    have hs : s = s' := by
      have d2 : B.natAbs ∣ (s - s').natAbs := Int.natAbs_dvd_natAbs.mpr dv
      rw [eB'] at s1 s1'
      have : (s - s').natAbs = 0 := Nat.eq_zero_of_dvd_of_lt d2 (by omega)
      omega
    refine ⟨rfl, hs, ?_⟩
    have : t * b = t' * b := by rw [hs] at e; omega
    exact Int.eq_of_mul_eq_mul_right hb this
theorem shares_ex (a b : Int) : ∃ p : Int × Int × Int, Shares a b p.1 p.2.1 p.2.2 := by
  obtain ⟨s0, t0, e⟩ := bezout a b
  by_cases hb : b = 0
  · subst hb
    rw [Int.gcd_zero_right] at e
    rcases Int.lt_trichotomy a 0 with h | h | h
    · exact ⟨(-a, -1, 0), by show 0 ≤ -a; omega, by show -1 * a + 0 * 0 = -a; omega, ⟨-1, by show a = -a * -1; omega⟩, ⟨0, by show (0 : Int) = -a * 0; omega⟩, fun _ => ⟨rfl, by show (-1 : Int) = _; rw [if_pos h]⟩, fun z => absurd rfl z⟩
    · exact ⟨(0, 0, 0), by show (0 : Int) ≤ 0; omega, by show 0 * a + 0 * 0 = 0; omega, ⟨0, by show a = 0 * 0; omega⟩, ⟨0, rfl⟩, fun _ => ⟨rfl, by show (0 : Int) = _; rw [if_neg (by omega), if_neg (by omega)]⟩, fun z => absurd rfl z⟩
    · exact ⟨(a, 1, 0), by show 0 ≤ a; omega, by show 1 * a + 0 * 0 = a; omega, ⟨1, by show a = a * 1; omega⟩, ⟨0, by show (0 : Int) = a * 0; omega⟩, fun _ => ⟨rfl, by show (1 : Int) = _; rw [if_neg (by omega), if_pos h]⟩, fun z => absurd rfl z⟩
  · have g0 := gcd_pos a hb
    have ga : ((Int.gcd a b : Nat) : Int) ∣ a := Int.gcd_dvd_left _ _
    have gb : ((Int.gcd a b : Nat) : Int) ∣ b := Int.gcd_dvd_right _ _
    generalize ((Int.gcd a b : Nat) : Int) = g at *
    obtain ⟨A, eA⟩ := ga
    obtain ⟨B, eB⟩ := gb
    have hB : B ≠ 0 := fun z => hb (by rw [eB, z, Int.mul_zero])
    have eB' : (b.natAbs : Int) / g = B.natAbs := by
      have : (b.natAbs : Int) = g * (B.natAbs : Int) := by rw [eB, Int.natAbs_mul, Int.natCast_mul]; congr 1; omega
      rw [this, Int.mul_ediv_cancel_left _ (Int.ne_of_gt g0)]
    have m0 : (0 : Int) < B.natAbs := by omega
    have em := Int.mul_ediv_add_emod s0 (B.natAbs : Int)
    obtain ⟨σ, hσ⟩ : ∃ σ : Int, (B.natAbs : Int) = σ * B := by
      rcases Int.le_total 0 B with z | z
      · exact ⟨1, by omega⟩
      · exact ⟨-1, by omega⟩
    refine ⟨(g, s0 % B.natAbs, t0 + (s0 / B.natAbs) * σ * A), Int.le_of_lt g0, ?_, ⟨A, eA⟩, ⟨B, eB⟩, fun z => absurd z hb, fun _ => ⟨g0, Int.emod_nonneg _ (by omega), by show s0 % _ < (b.natAbs : Int) / g; rw [eB']; exact Int.emod_lt_of_pos _ m0⟩⟩
    show s0 % B.natAbs * a + (t0 + (s0 / B.natAbs) * σ * A) * b = g
    rw [← e]
    generalize s0 / (B.natAbs : Int) = q at *
    generalize s0 % (B.natAbs : Int) = r at *
    rw [hσ] at em
    rw [← em, eA, eB]
    grind
/-- the shares of two numbers -/
noncomputable def sh (a b : Int) : Int × Int × Int := Classical.choose (shares_ex a b)
theorem sh_ok (a b : Int) : Shares a b (sh a b).1 (sh a b).2.1 (sh a b).2.2 := Classical.choose_spec (shares_ex a b)
theorem Shares.eq {a b g s t : Int} (h : Shares a b g s t) : sh a b = (g, s, t) := by
  obtain ⟨h1, h2, h3⟩ := (sh_ok a b).uniq h
  exact Prod.ext h1 (Prod.ext h2 h3)
theorem Shares.gcd {a b g s t : Int} (h : Shares a b g s t) : g = ((Int.gcd a b : Nat) : Int) := by
  refine Int.dvd_antisymm h.g0 (by omega) (Int.dvd_coe_gcd h.ga h.gb) ?_
  rw [← h.e]
  exact Int.dvd_add (Int.dvd_mul_of_dvd_right (Int.gcd_dvd_left _ _)) (Int.dvd_mul_of_dvd_right (Int.gcd_dvd_right _ _))
end Num
/-! lists of points, equal or not -/
namespace DL
open PySem PySem.Spec PyProof.Rows L2
theorem shp_ptsL (n : Nat) : ∀ ps : List Pt, shpL (n + 1) (ps.map pt) = true
  | [] => rfl
  | p :: ps => by show (shp (n + 1) (pt p) && shpL (n + 1) (ps.map pt)) = true; rw [shp_ptsL n ps]; rfl
theorem shp_pts (n : Nat) (ps : List Pt) : shp (n + 2) (.lst (ps.map pt)) = true := shp_ptsL n ps
theorem eqD_pt (p q : Pt) : eqD (pt p) (pt q) = decide (p = q) := by
  obtain ⟨a, b⟩ := p
  obtain ⟨c, d⟩ := q
  rw [Bool.eq_iff_iff, decide_eq_true_iff]
  simp [pt, eqD, eqDL, Prod.mk.injEq]
theorem eqDL_pts : ∀ ps qs : List Pt, eqDL (ps.map pt) (qs.map pt) = decide (ps = qs)
  | [], [] => by unfold eqDL; rfl
  | [], q :: qs => by rw [List.map_nil, List.map_cons]; unfold eqDL; simp
  | p :: ps, [] => by rw [List.map_nil, List.map_cons]; unfold eqDL; simp
  | p :: ps, q :: qs => by
    rw [List.map_cons, List.map_cons]
    unfold eqDL
    rw [eqD_pt, eqDL_pts ps qs, Bool.eq_iff_iff]
    simp
theorem eqD_pts (ps qs : List Pt) : eqD (.lst (ps.map pt)) (.lst (qs.map pt)) = decide (ps = qs) := by
  unfold eqD
  exact eqDL_pts ps qs
theorem ifPt {p q : Pt} {A B : Prop} (h1 : p = q → A) (h2 : p ≠ q → B) : if eqD (pt p) (pt q) = true then A else B := by
  rw [eqD_pt]; exact ifd h1 h2
theorem ifPtNe {p q : Pt} {A B : Prop} (h1 : p ≠ q → A) (h2 : p = q → B) : if (!eqD (pt p) (pt q)) = true then A else B := by
  rw [eqD_pt]
  by_cases h : p = q
  · rw [decide_eq_true h, if_neg (by decide)]; exact h2 h
  · rw [decide_eq_false h, if_pos (by decide)]; exact h1 h
theorem ifPts {p q : List Pt} {A B : Prop} (h1 : p = q → A) (h2 : p ≠ q → B) : if eqD (.lst (p.map pt)) (.lst (q.map pt)) = true then A else B := by
  rw [eqD_pts]; exact ifd h1 h2
theorem ifPtsNe {p q : List Pt} {A B : Prop} (h1 : p ≠ q → A) (h2 : p = q → B) : if (!eqD (.lst (p.map pt)) (.lst (q.map pt))) = true then A else B := by
  rw [eqD_pts]
  by_cases h : p = q
  · rw [decide_eq_true h, if_neg (by decide)]; exact h2 h
  · rw [decide_eq_false h, if_pos (by decide)]; exact h1 h
theorem onS_at {l : List Dat} {r j : Int} {d : Dat} {k : Dat → Prop} (e : r = j) (h : atI l j = some d) (q : k d) : onS (atI l r) k := by rw [e]; exact onS_some h q
/-- a place by what is left over -/
theorem onS_mod {l : List Dat} {b n : Int} {k : Dat → Prop} (hn : (l.length : Int) = n) (h0 : 0 < n) (h : ∀ d ∈ l, k d) : onS (atI l (b % n)) k := by
  subst hn
  have h1 := Int.emod_nonneg b (Int.ne_of_gt h0)
  have h2 := Int.emod_lt_of_pos b h0
  have hj : (b % (l.length : Int)).toNat < l.length := by omega
  refine onS_at (j := ((b % (l.length : Int)).toNat : Int)) (by omega) (atI_nat (List.getElem?_eq_getElem hj)) (h _ (List.getElem_mem hj))
end DL
/-! moves -/
namespace Mov
open DL PySem
structure Mv where
  a : Int
  b : Int
  c : Int
  d : Int
  e : Int
  f : Int
def mv (m : Mv) : Dat := .tup [.int m.a, .int m.b, .int m.c, .int m.d, .int m.e, .int m.f]
def det (m : Mv) : Int := m.a * m.d - m.b * m.c
def act (m : Mv) (p : Pt) : Pt := (m.a * p.1 + m.b * p.2 + m.e, m.c * p.1 + m.d * p.2 + m.f)
/-- first, then second -/
def thn (m n : Mv) : Mv := ⟨n.a * m.a + n.b * m.c, n.a * m.b + n.b * m.d, n.c * m.a + n.d * m.c, n.c * m.b + n.d * m.d, n.a * m.e + n.b * m.f + n.e, n.c * m.e + n.d * m.f + n.f⟩
def back (m : Mv) : Mv := ⟨det m * m.d, -det m * m.b, -det m * m.c, det m * m.a, det m * (m.b * m.f - m.d * m.e), det m * (m.c * m.e - m.a * m.f)⟩
def IsMv (m : Mv) : Prop := det m = 1 ∨ det m = -1
instance (m : Mv) : Decidable (IsMv m) := by unfold IsMv; infer_instance
structure BM (k : Nat) (m : Mv) : Prop where
  a : Bt k m.a
  b : Bt k m.b
  c : Bt k m.c
  d : Bt k m.d
  e : Bt k m.e
  f : Bt k m.f
theorem BM.mono {k l : Nat} {m : Mv} (h : BM k m) (hl : k ≤ l) : BM l m := ⟨h.a.mono hl, h.b.mono hl, h.c.mono hl, h.d.mono hl, h.e.mono hl, h.f.mono hl⟩
theorem act_thn (m n : Mv) (p : Pt) : act (thn m n) p = act n (act m p) := by
  refine Prod.ext ?_ ?_
  · show (n.a * m.a + n.b * m.c) * p.1 + (n.a * m.b + n.b * m.d) * p.2 + (n.a * m.e + n.b * m.f + n.e) = n.a * (m.a * p.1 + m.b * p.2 + m.e) + n.b * (m.c * p.1 + m.d * p.2 + m.f) + n.e
    grind
  · show (n.c * m.a + n.d * m.c) * p.1 + (n.c * m.b + n.d * m.d) * p.2 + (n.c * m.e + n.d * m.f + n.f) = n.c * (m.a * p.1 + m.b * p.2 + m.e) + n.d * (m.c * p.1 + m.d * p.2 + m.f) + n.f
    grind
theorem det_thn (m n : Mv) : det (thn m n) = det m * det n := by
  show (n.a * m.a + n.b * m.c) * (n.c * m.b + n.d * m.d) - (n.a * m.b + n.b * m.d) * (n.c * m.a + n.d * m.c) = (m.a * m.d - m.b * m.c) * (n.a * n.d - n.b * n.c)
  grind
theorem IsMv.thn {m n : Mv} (h : IsMv m) (h' : IsMv n) : IsMv (thn m n) := by
  unfold IsMv
  rw [det_thn]
  rcases h with h | h <;> rcases h' with h' | h' <;> rw [h, h'] <;> decide
theorem IsMv.sq {m : Mv} (h : IsMv m) : det m * det m = 1 := by
  rcases h with h | h <;> rw [h] <;> rfl
theorem det_back {m : Mv} (h : IsMv m) : det (back m) = det m := by
  show det m * m.d * (det m * m.a) - -det m * m.b * (-det m * m.c) = det m
  have h2 := h.sq
  have : m.a * m.d - m.b * m.c = det m := rfl
  generalize det m = D at *
  have : D * m.d * (D * m.a) - -D * m.b * (-D * m.c) = (D * D) * (m.a * m.d - m.b * m.c) := by grind
  rw [this, h2]; omega
theorem IsMv.back {m : Mv} (h : IsMv m) : IsMv (back m) := by
  unfold IsMv; rw [det_back h]; exact h
theorem back_act {m : Mv} (h : IsMv m) (p : Pt) : act (back m) (act m p) = p := by
  have h2 := h.sq
  have e : m.a * m.d - m.b * m.c = det m := rfl
  refine Prod.ext ?_ ?_
  · show det m * m.d * (m.a * p.1 + m.b * p.2 + m.e) + -det m * m.b * (m.c * p.1 + m.d * p.2 + m.f) + det m * (m.b * m.f - m.d * m.e) = p.1
    generalize det m = D at *
    have : D * m.d * (m.a * p.1 + m.b * p.2 + m.e) + -D * m.b * (m.c * p.1 + m.d * p.2 + m.f) + D * (m.b * m.f - m.d * m.e) = D * (m.a * m.d - m.b * m.c) * p.1 := by grind
    rw [this, e, h2]; omega
  · show -det m * m.c * (m.a * p.1 + m.b * p.2 + m.e) + det m * m.a * (m.c * p.1 + m.d * p.2 + m.f) + det m * (m.c * m.e - m.a * m.f) = p.2
    generalize det m = D at *
    have : -D * m.c * (m.a * p.1 + m.b * p.2 + m.e) + D * m.a * (m.c * p.1 + m.d * p.2 + m.f) + D * (m.c * m.e - m.a * m.f) = D * (m.a * m.d - m.b * m.c) * p.2 := by grind
    rw [this, e, h2]; omega
theorem act_back {m : Mv} (h : IsMv m) (p : Pt) : act m (act (back m) p) = p := by
  have h2 := h.sq
  have e : m.a * m.d - m.b * m.c = det m := rfl
  refine Prod.ext ?_ ?_
  · show m.a * (det m * m.d * p.1 + -det m * m.b * p.2 + det m * (m.b * m.f - m.d * m.e)) + m.b * (-det m * m.c * p.1 + det m * m.a * p.2 + det m * (m.c * m.e - m.a * m.f)) + m.e = p.1
    generalize det m = D at *
    have : m.a * (D * m.d * p.1 + -D * m.b * p.2 + D * (m.b * m.f - m.d * m.e)) + m.b * (-D * m.c * p.1 + D * m.a * p.2 + D * (m.c * m.e - m.a * m.f)) + m.e = D * (m.a * m.d - m.b * m.c) * (p.1 - m.e) + m.e := by grind
    rw [this, e, h2]; omega
  · show m.c * (det m * m.d * p.1 + -det m * m.b * p.2 + det m * (m.b * m.f - m.d * m.e)) + m.d * (-det m * m.c * p.1 + det m * m.a * p.2 + det m * (m.c * m.e - m.a * m.f)) + m.f = p.2
    generalize det m = D at *
    have : m.c * (D * m.d * p.1 + -D * m.b * p.2 + D * (m.b * m.f - m.d * m.e)) + m.d * (-D * m.c * p.1 + D * m.a * p.2 + D * (m.c * m.e - m.a * m.f)) + m.f = D * (m.a * m.d - m.b * m.c) * (p.2 - m.f) + m.f := by grind
    rw [this, e, h2]; omega
/-- a move is told by where it takes three points -/
theorem mv_three {m n : Mv} (h0 : act m (0, 0) = act n (0, 0)) (h1 : act m (1, 0) = act n (1, 0)) (h2 : act m (0, 1) = act n (0, 1)) : m = n := by
  obtain ⟨a, b, c, d, e, f⟩ := m
  obtain ⟨a', b', c', d', e', f'⟩ := n
  unfold act at h0 h1 h2
  simp only [Prod.mk.injEq] at h0 h1 h2
  simp only [Mv.mk.injEq]
  omega
theorem act_inj {m : Mv} (h : IsMv m) {p q : Pt} (e : act m p = act m q) : p = q := by
  rw [← back_act h p, e, back_act h q]
/-- what a thing is, asked whether it is a move -/
def isInt : Dat → Bool
  | .int _ => true
  | _ => false
def mvB : Dat → Bool
  | .tup [.int a, .int b, .int c, .int d, _, _] => decide (a * d - b * c = 1 ∨ a * d - b * c = -1)
  | _ => false
/-- six numbers -/
def sixB : Dat → Bool
  | .tup [.int _, .int _, .int _, .int _, .int _, .int _] => true
  | _ => false
def moveB (d : Dat) : Bool := sixB d && mvB d
theorem moveB_mv (m : Mv) : moveB (mv m) = decide (IsMv m) := by
  show (true && decide (m.a * m.d - m.b * m.c = 1 ∨ m.a * m.d - m.b * m.c = -1)) = _
  rw [Bool.true_and]
  rfl
theorem six_of {d : Dat} (h : sixB d = true) : ∃ m, d = mv m := by
  unfold sixB at h
  split at h
  · exact ⟨⟨_, _, _, _, _, _⟩, rfl⟩
  · exact nomatch h
theorem act_bp {j k : Nat} {m : Mv} {p : Pt} (hm : BM j m) (hp : BP k p) : BP (j + k + 2) (act m p) := by
  have h := hp.x
  have h' := hp.y
  refine ⟨?_, ?_⟩
  · refine (((hm.a.mul h).add (hm.b.mul h')).add hm.e).mono ?_; omega
  · refine (((hm.c.mul h).add (hm.d.mul h')).add hm.f).mono ?_; omega
theorem thn_bm {j k : Nat} {m n : Mv} (hm : BM j m) (hn : BM k n) : BM (j + k + 2) (thn m n) := by
  refine ⟨?_, ?_, ?_, ?_, ?_, ?_⟩
  · refine ((hn.a.mul hm.a).add (hn.b.mul hm.c)).mono ?_; omega
  · refine ((hn.a.mul hm.b).add (hn.b.mul hm.d)).mono ?_; omega
  · refine ((hn.c.mul hm.a).add (hn.d.mul hm.c)).mono ?_; omega
  · refine ((hn.c.mul hm.b).add (hn.d.mul hm.d)).mono ?_; omega
  · refine (((hn.a.mul hm.e).add (hn.b.mul hm.f)).add hn.e).mono ?_; omega
  · refine (((hn.c.mul hm.e).add (hn.d.mul hm.f)).add hn.f).mono ?_; omega
theorem back_bm {j : Nat} {m : Mv} (hm : BM j m) (h : IsMv m) : BM (j + j + 3) (back m) := by
  have b1 : Bt 2 (det m) := by rcases h with h | h <;> rw [h] <;> exact Bt.lit (by decide)
  have b2 : Bt 2 (-det m) := b1.neg
  refine ⟨(b1.mul hm.d).mono (by omega), (b2.mul hm.b).mono (by omega), (b2.mul hm.c).mono (by omega), (b1.mul hm.a).mono (by omega), (b1.mul ((hm.b.mul hm.f).sub (hm.d.mul hm.e))).mono (by omega), (b1.mul ((hm.c.mul hm.e).sub (hm.a.mul hm.f))).mono (by omega)⟩
/-- one behind the other by three points -/
theorem thn_pts (m n : Mv) : thn m n = ⟨(act n (act m (1, 0))).1 - (act n (act m (0, 0))).1, (act n (act m (0, 1))).1 - (act n (act m (0, 0))).1, (act n (act m (1, 0))).2 - (act n (act m (0, 0))).2, (act n (act m (0, 1))).2 - (act n (act m (0, 0))).2, (act n (act m (0, 0))).1, (act n (act m (0, 0))).2⟩ := by
  unfold thn act
  simp only [Mv.mk.injEq]
  refine ⟨?_, ?_, ?_, ?_, ?_, ?_⟩ <;> grind
/-! ### a level -/
@[irreducible] def gd (p q : Pt) : Int := ((Int.gcd (q.1 - p.1) (q.2 - p.2) : Nat) : Int)
@[irreducible] noncomputable def lv (p q : Pt) : Mv :=
  let u := (q.1 - p.1) / gd p q
  let v := (q.2 - p.2) / gd p q
  let w := Num.sh u v
  ⟨w.2.1, w.2.2, -v, u, -w.2.1 * p.1 - w.2.2 * p.2, v * p.1 - u * p.2⟩
theorem sh_gd (p q : Pt) : (Num.sh (q.1 - p.1) (q.2 - p.2)).1 = gd p q := by unfold gd; exact (Num.sh_ok (q.1 - p.1) (q.2 - p.2)).gcd
theorem lv_def (p q : Pt) : lv p q = ⟨(Num.sh ((q.1 - p.1) / gd p q) ((q.2 - p.2) / gd p q)).2.1, (Num.sh ((q.1 - p.1) / gd p q) ((q.2 - p.2) / gd p q)).2.2, -((q.2 - p.2) / gd p q), (q.1 - p.1) / gd p q, -(Num.sh ((q.1 - p.1) / gd p q) ((q.2 - p.2) / gd p q)).2.1 * p.1 - (Num.sh ((q.1 - p.1) / gd p q) ((q.2 - p.2) / gd p q)).2.2 * p.2, ((q.2 - p.2) / gd p q) * p.1 - ((q.1 - p.1) / gd p q) * p.2⟩ := by unfold lv; rfl
theorem gd_pos {p q : Pt} (h : p ≠ q) : 0 < gd p q := by
  unfold gd
  by_cases h1 : q.2 - p.2 = 0
  · have h2 : q.1 - p.1 ≠ 0 := fun z => h (Prod.ext (by omega) (by omega))
    have := Int.gcd_pos_of_ne_zero_left (q.2 - p.2) h2
    omega
  · have := Int.gcd_pos_of_ne_zero_right (q.1 - p.1) h1
    omega
theorem gd_one {p q : Pt} (h : gd p q ≠ 0) : p ≠ q := fun e => by subst e; apply h; unfold gd; simp
theorem gd_u (p q : Pt) : gd p q ∣ q.1 - p.1 := by unfold gd; exact Int.gcd_dvd_left _ _
theorem gd_v (p q : Pt) : gd p q ∣ q.2 - p.2 := by unfold gd; exact Int.gcd_dvd_right _ _
/-- what is known of it -/
structure Lv (p q : Pt) (m : Mv) (g u v s t : Int) : Prop where
  em : m = ⟨s, t, -v, u, -s * p.1 - t * p.2, v * p.1 - u * p.2⟩
  g0 : 0 < g
  eu : q.1 - p.1 = g * u
  ev : q.2 - p.2 = g * v
  one : s * u + t * v = 1
  z : v = 0 → t = 0 ∧ s = u
  nz : v ≠ 0 → 0 ≤ s ∧ s < v.natAbs
theorem lv_ok {p q : Pt} (h : p ≠ q) : ∃ s t, Lv p q (lv p q) (gd p q) ((q.1 - p.1) / gd p q) ((q.2 - p.2) / gd p q) s t ∧ s = (Num.sh ((q.1 - p.1) / gd p q) ((q.2 - p.2) / gd p q)).2.1 ∧ t = (Num.sh ((q.1 - p.1) / gd p q) ((q.2 - p.2) / gd p q)).2.2 := by
  have g0 := gd_pos h
  have h1 := Int.mul_ediv_cancel' (gd_u p q)
  have h2 := Int.mul_ediv_cancel' (gd_v p q)
  have hs := Num.sh_ok ((q.1 - p.1) / gd p q) ((q.2 - p.2) / gd p q)
  refine ⟨_, _, ?_, rfl, rfl⟩
  have hm := lv_def p q
  have hgg : (Num.sh ((q.1 - p.1) / gd p q) ((q.2 - p.2) / gd p q)).1 = 1 := by
    rw [hs.gcd]
    have e := Int.gcd_ediv (gd_u p q) (gd_v p q)
    rw [e]
    have : (Int.gcd (q.1 - p.1) (q.2 - p.2)) / (gd p q).natAbs = 1 := by
      unfold gd
      rw [Int.natAbs_natCast]
      refine Nat.div_self ?_
      unfold gd at g0
      omega
    omega
  rw [hgg] at hs
  generalize (q.1 - p.1) / gd p q = u at *
  generalize (q.2 - p.2) / gd p q = v at *
  refine ⟨hm, g0, h1.symm, h2.symm, hs.e, fun z => ?_, fun z => ?_⟩
  · obtain ⟨z1, z2⟩ := hs.z z
    refine ⟨z1, ?_⟩
    have e := hs.e
    rw [z1, Int.zero_mul, Int.add_zero] at e
    rcases Int.lt_trichotomy u 0 with w | w | w
    · rw [if_pos w] at z2; rw [z2] at e ⊢; omega
    · rw [if_neg (by omega), if_neg (by omega)] at z2; rw [z2] at e; omega
    · rw [if_neg (by omega), if_pos w] at z2; rw [z2] at e ⊢; omega
  · obtain ⟨z1, z2, z3⟩ := hs.nz z
    exact ⟨z2, by rw [Int.ediv_one] at z3; exact z3⟩
theorem Lv.mv {p q : Pt} {m : Mv} {g u v s t : Int} (h : Lv p q m g u v s t) : det m = 1 := by
  rw [h.em]; show s * u - t * -v = 1
  have := h.one
  rw [Int.mul_neg]; omega
theorem Lv.at0 {p q : Pt} {m : Mv} {g u v s t : Int} (h : Lv p q m g u v s t) : act m p = (0, 0) := by
  rw [h.em]
  refine Prod.ext ?_ ?_
  · show s * p.1 + t * p.2 + (-s * p.1 - t * p.2) = 0; grind
  · show -v * p.1 + u * p.2 + (v * p.1 - u * p.2) = 0; grind
theorem Lv.at1 {p q : Pt} {m : Mv} {g u v s t : Int} (h : Lv p q m g u v s t) : act m q = (g, 0) := by
  have e1 := h.eu
  have e2 := h.ev
  have e3 := h.one
  rw [h.em]
  refine Prod.ext ?_ ?_
  · show s * q.1 + t * q.2 + (-s * p.1 - t * p.2) = g
    have : s * q.1 + t * q.2 + (-s * p.1 - t * p.2) = s * (q.1 - p.1) + t * (q.2 - p.2) := by grind
    rw [this, e1, e2]
    have : s * (g * u) + t * (g * v) = g * (s * u + t * v) := by grind
    rw [this, e3, Int.mul_one]
  · show -v * q.1 + u * q.2 + (v * p.1 - u * p.2) = 0
    have : -v * q.1 + u * q.2 + (v * p.1 - u * p.2) = u * (q.2 - p.2) - v * (q.1 - p.1) := by grind
    rw [this, e1, e2]; grind
theorem gd_bt {k : Nat} {p q : Pt} (hp : BP k p) (hq : BP k q) (h : p ≠ q) : Bt (k + 1) (gd p q) := by
  have b1 := (hq.x.sub hp.x).mono (l := k + 1) (by omega)
  have b2 := (hq.y.sub hp.y).mono (l := k + 1) (by omega)
  by_cases z : q.2 - p.2 = 0
  · have z2 : q.1 - p.1 ≠ 0 := fun z' => h (Prod.ext (by omega) (by omega))
    exact b1.le_abs (Nat.le_of_dvd (by omega) (Int.natAbs_dvd_natAbs.mpr (gd_u p q)))
  · exact b2.le_abs (Nat.le_of_dvd (by omega) (Int.natAbs_dvd_natAbs.mpr (gd_v p q)))
theorem lv_bm {k : Nat} {p q : Pt} (hp : BP k p) (hq : BP k q) (h : p ≠ q) : BM (k + k + 4) (lv p q) := by
  obtain ⟨s, t, L, es, et⟩ := lv_ok h
  have b1 := (hq.x.sub hp.x).mono (l := k + 1) (by omega) |>.ediv (m := gd p q)
  have b2 := (hq.y.sub hp.y).mono (l := k + 1) (by omega) |>.ediv (m := gd p q)
  obtain ⟨bg, bs, bt⟩ := (Num.sh_ok ((q.1 - p.1) / gd p q) ((q.2 - p.2) / gd p q)).bt b1 b2 (by omega)
  rw [← es] at bs
  rw [← et] at bt
  rw [L.em]
  exact ⟨bs.mono (by omega), bt.mono (by omega), b2.neg.mono (by omega), b1.mono (by omega), ((bs.neg.mul hp.x).sub (bt.mul hp.y)).mono (by omega), ((b2.mul hp.x).sub (b1.mul hp.y)).mono (by omega)⟩
theorem gd_dvd (m : Mv) (p q : Pt) : gd p q ∣ gd (act m p) (act m q) := by
  have h1 := gd_u p q
  have h2 := gd_v p q
  have e1 : (act m q).1 - (act m p).1 = m.a * (q.1 - p.1) + m.b * (q.2 - p.2) := by unfold act; grind
  have e2 : (act m q).2 - (act m p).2 = m.c * (q.1 - p.1) + m.d * (q.2 - p.2) := by unfold act; grind
  have d1 : gd p q ∣ (act m q).1 - (act m p).1 := by rw [e1]; exact Int.dvd_add (Int.dvd_mul_of_dvd_right h1) (Int.dvd_mul_of_dvd_right h2)
  have d2 : gd p q ∣ (act m q).2 - (act m p).2 := by rw [e2]; exact Int.dvd_add (Int.dvd_mul_of_dvd_right h1) (Int.dvd_mul_of_dvd_right h2)
  have := Int.dvd_coe_gcd d1 d2
  unfold gd at *
  exact this
theorem gd_nonneg (p q : Pt) : 0 ≤ gd p q := by unfold gd; omega
theorem gd_act {m : Mv} (h : IsMv m) (p q : Pt) : gd (act m p) (act m q) = gd p q := by
  refine Int.dvd_antisymm (gd_nonneg _ _) (gd_nonneg _ _) ?_ (gd_dvd m p q)
  have := gd_dvd (back m) (act m p) (act m q)
  rwa [back_act h, back_act h] at this
/-- a move is told by what it does behind another one -/
theorem thn_cancel {f m n : Mv} (h : IsMv f) (e : thn f m = thn f n) : m = n := by
  have k : ∀ q, act m q = act n q := fun q => by
    have : act m (act f (act (back f) q)) = act n (act f (act (back f) q)) := by rw [← act_thn f m, ← act_thn f n, e]
    rwa [act_back h] at this
  exact mv_three (k _) (k _) (k _)
theorem thn_assoc (l m n : Mv) : thn (thn l m) n = thn l (thn m n) := by
  refine mv_three ?_ ?_ ?_ <;> simp only [act_thn]
theorem thn_back {m : Mv} (h : IsMv m) (f : Mv) : thn (thn f m) (back m) = f := by
  refine mv_three ?_ ?_ ?_ <;> simp only [act_thn, back_act h]
theorem eqD_mv (m : Mv) : eqD (mv m) (mv m) = true := by simp [mv, eqD, eqDL]
/-- of a level: where the third point lies -/
theorem lv_third {f : Mv} (h : IsMv f) : ∃ l : Mv, l = lv (act f (0, 0)) (act f (1, 0)) ∧ det l = 1 ∧ act l (act f (0, 0)) = (0, 0) ∧ act l (act f (1, 0)) = (1, 0) ∧ ((act l (act f (0, 1))).2 = 1 ∨ (act l (act f (0, 1))).2 = -1) ∧ act f (0, 0) ≠ act f (1, 0) := by
  have hne : act f (0, 0) ≠ act f (1, 0) := fun e => by
    have := act_inj h e
    simp at this
  have g1 : gd (act f (0, 0)) (act f (1, 0)) = 1 := by
    rw [gd_act h]; unfold gd; rfl
  obtain ⟨s, t, L, _, _⟩ := lv_ok hne
  have a0 := L.at0
  have a1 := L.at1
  have d := L.mv
  rw [g1] at a1
  refine ⟨_, rfl, d, a0, a1, ?_, hne⟩
  generalize lv (act f (0, 0)) (act f (1, 0)) = l at *
  have hd : det (thn f l) = 1 ∨ det (thn f l) = -1 := h.thn (.inl d)
  rw [← act_thn] at a0 a1 ⊢
  generalize thn f l = n at *
  unfold act at a0 a1 ⊢
  unfold det at hd
  simp only [Prod.mk.injEq] at a0 a1
  show n.c * 0 + n.d * 1 + n.f = 1 ∨ n.c * 0 + n.d * 1 + n.f = -1
  have e1 : n.a = 1 := by omega
  have e2 : n.c = 0 := by omega
  rw [e1, e2] at hd
  omega
/-- the slope between two that leave the first two points -/
theorem slope_ok {P Q : Pt} (hP : P.2 = 1 ∨ P.2 = -1) (hQ : Q.2 = 1 ∨ Q.2 = -1) : IsMv ⟨1, (Q.1 - P.1) * P.2, 0, Q.2 * P.2, 0, 0⟩ ∧ act ⟨1, (Q.1 - P.1) * P.2, 0, Q.2 * P.2, 0, 0⟩ (0, 0) = (0, 0) ∧ act ⟨1, (Q.1 - P.1) * P.2, 0, Q.2 * P.2, 0, 0⟩ (1, 0) = (1, 0) ∧ act ⟨1, (Q.1 - P.1) * P.2, 0, Q.2 * P.2, 0, 0⟩ P = Q := by
  obtain ⟨x, y⟩ := P
  obtain ⟨z, w⟩ := Q
  dsimp only at hP hQ
  unfold IsMv det act
  rcases hP with rfl | rfl <;> rcases hQ with rfl | rfl <;> (refine ⟨?_, ?_, ?_, ?_⟩) <;> (try simp only [Prod.mk.injEq]) <;> omega
/-- found back -/
theorem found_back {f m : Mv} (hf : IsMv f) (hm : IsMv m) {l l' s : Mv} (hl : IsMv l) (hl' : IsMv l') (h0 : act l (act f (0, 0)) = (0, 0)) (h1 : act l (act f (1, 0)) = (1, 0)) (h0' : act l' (act m (act f (0, 0))) = (0, 0)) (h1' : act l' (act m (act f (1, 0))) = (1, 0)) (s0 : act s (0, 0) = (0, 0)) (s1 : act s (1, 0) = (1, 0)) (s2 : act s (act l (act f (0, 1))) = act l' (act m (act f (0, 1)))) : thn (thn l s) (back l') = m := by
  have e : thn (thn f l) s = thn (thn f m) l' := by
    refine mv_three ?_ ?_ ?_ <;> simp only [act_thn]
    · rw [h0, s0, h0']
    · rw [h1, s1, h1']
    · exact s2
  refine thn_cancel hf ?_
  rw [← thn_assoc, ← thn_assoc, e, thn_back hl']
theorem mv_pts (M : Mv) : mv M = .tup [.int ((act M (1, 0)).1 - (act M (0, 0)).1), .int ((act M (0, 1)).1 - (act M (0, 0)).1), .int ((act M (1, 0)).2 - (act M (0, 0)).2), .int ((act M (0, 1)).2 - (act M (0, 0)).2), .int (act M (0, 0)).1, .int (act M (0, 0)).2] := by
  unfold mv act
  simp only [Dat.tup.injEq, List.cons.injEq, Dat.int.injEq]
  refine ⟨?_, ?_, ?_, ?_, ?_, ?_, trivial⟩ <;> grind
theorem bm_pts {k : Nat} {M : Mv} (h0 : BP k (act M (0, 0))) (h1 : BP k (act M (1, 0))) (h2 : BP k (act M (0, 1))) : BM (k + 1) M := by
  have e := mv_pts M
  unfold mv at e
  simp only [Dat.tup.injEq, List.cons.injEq, Dat.int.injEq] at e
  obtain ⟨ea, eb, ec, ed, ee, ef, _⟩ := e
  refine ⟨?_, ?_, ?_, ?_, ?_, ?_⟩
  · rw [ea]; exact (h1.x.sub h0.x).mono (by omega)
  · rw [eb]; exact (h2.x.sub h0.x).mono (by omega)
  · rw [ec]; exact (h1.y.sub h0.y).mono (by omega)
  · rw [ed]; exact (h2.y.sub h0.y).mono (by omega)
  · rw [ee]; exact h0.x.mono (by omega)
  · rw [ef]; exact h0.y.mono (by omega)
/-- a move of small slopes -/
theorem act_small {k : Nat} {m : Mv} {p : Pt} (ha : Bt 4 m.a) (hb : Bt 4 m.b) (hc : Bt 4 m.c) (hd : Bt 4 m.d) (he : Bt 72 m.e) (hf : Bt 72 m.f) (hp : BP k p) (hk : 72 ≤ k) : BP (k + 6) (act m p) := by
  have h := hp.x
  have h' := hp.y
  refine ⟨?_, ?_⟩
  · refine (((ha.mul h).add (hb.mul h')).add he).mono ?_; omega
  · refine (((hc.mul h).add (hd.mul h')).add hf).mono ?_; omega
def three : List Pt := [(0, 0), (1, 0), (0, 1)]
theorem maps_thn (m n : Mv) (ps : List Pt) : (ps.map (act m)).map (act n) = ps.map (act (thn m n)) := by
  rw [List.map_map]
  exact List.map_congr_left fun p _ => (act_thn m n p).symm
end Mov
/-! the hand of three points -/
namespace Hull
open DL PySem
/-- what two ways from a point span -/
def span (P Q R : Pt) : Int := (Q.1 - P.1) * (R.2 - P.2) - (Q.2 - P.2) * (R.1 - P.1)
def turn (P Q R : Pt) : Int := if (Q.1 - P.1) * (R.2 - P.2) > (Q.2 - P.2) * (R.1 - P.1) then 1 else if (Q.1 - P.1) * (R.2 - P.2) < (Q.2 - P.2) * (R.1 - P.1) then -1 else 0
theorem turn_pos {P Q R : Pt} : turn P Q R = 1 ↔ 0 < span P Q R := by
  unfold turn span
  split
  · omega
  · split <;> omega
theorem turn_neg {P Q R : Pt} : turn P Q R = -1 ↔ span P Q R < 0 := by
  unfold turn span
  split
  · omega
  · split <;> omega
theorem turn_zero {P Q R : Pt} : turn P Q R = 0 ↔ span P Q R = 0 := by
  unfold turn span
  split
  · omega
  · split <;> omega
theorem turn_le {P Q R : Pt} : turn P Q R ≤ 0 ↔ span P Q R ≤ 0 := by
  unfold turn span
  split
  · omega
  · split <;> omega
end Hull
/-! another whole point in a triangle -/
namespace Hull
open DL PySem PySem.Spec PyProof.Rows L2 Mov
/-- in or on the triangle -/
structure InTri (P Q R S : Pt) : Prop where
  a : 0 ≤ span R P S * span P Q R
  b : 0 ≤ span P Q S * span P Q R
  c : 0 ≤ span Q R S * span P Q R
theorem span_act (m : Mv) (a b c : Pt) : span (act m a) (act m b) (act m c) = det m * span a b c := by
  unfold span act det; grind
theorem InTri.back {P Q R S : Pt} {m : Mv} (hm : det m = 1) (h : InTri (act m P) (act m Q) (act m R) (act m S)) : InTri P Q R S := by
  obtain ⟨h1, h2, h3⟩ := h
  simp only [span_act, hm, Int.one_mul] at h1 h2 h3
  exact ⟨h1, h2, h3⟩
theorem sqn (x : Int) : 0 ≤ x * x := by
  rcases Int.le_total 0 x with h | h
  · exact Int.mul_nonneg h h
  · have := Int.mul_nonneg (show 0 ≤ -x by omega) (show 0 ≤ -x by omega)
    rwa [Int.neg_mul_neg] at this
theorem tri_long {g x y : Int} (hg : 1 < g) : InTri (0, 0) (g, 0) (x, y) (1, 0) := by
  have q := sqn y
  have e : span (0, 0) (g, 0) (x, y) = g * y := by unfold span; grind
  refine ⟨?_, ?_, ?_⟩
  · have e1 : span (x, y) (0, 0) (1, 0) = y := by unfold span; grind
    rw [e, e1]
    have : y * (g * y) = g * (y * y) := by grind
    rw [this]; exact Int.mul_nonneg (by omega) q
  · have e1 : span (0, 0) (g, 0) (1, 0) = 0 := by unfold span; grind
    rw [e1]; simp
  · have e1 : span (g, 0) (x, y) (1, 0) = (g - 1) * y := by unfold span; grind
    rw [e, e1]
    have : (g - 1) * y * (g * y) = (g - 1) * g * (y * y) := by grind
    rw [this]; exact Int.mul_nonneg (Int.mul_nonneg (by omega) (by omega)) q
theorem tri_high {h x y c s : Int} (h1 : 1 ≤ h) (hs : s = 1 ∨ s = -1) (hy : y = s * h) (c1 : x ≤ h * c) (c2 : h * c ≤ x + h - 1) : InTri (0, 0) (1, 0) (x, y) (c, s) := by
  have e : span (0, 0) (1, 0) (x, y) = y := by unfold span; grind
  have ss : s * s = 1 := by rcases hs with rfl | rfl <;> rfl
  refine ⟨?_, ?_, ?_⟩
  · have e1 : span (x, y) (0, 0) (c, s) = y * c - x * s := by unfold span; grind
    rw [e, e1, hy]
    have : (s * h * c - x * s) * (s * h) = (s * s) * ((h * c - x) * h) := by grind
    rw [this, ss, Int.one_mul]; exact Int.mul_nonneg (by omega) (by omega)
  · have e1 : span (0, 0) (1, 0) (c, s) = s := by unfold span; grind
    rw [e, e1, hy]
    have : s * (s * h) = (s * s) * h := by grind
    rw [this, ss]; omega
  · have e1 : span (1, 0) (x, y) (c, s) = (x - 1) * s - y * (c - 1) := by unfold span; grind
    rw [e, e1, hy]
    have : ((x - 1) * s - s * h * (c - 1)) * (s * h) = (s * s) * ((x - 1 - h * c + h) * h) := by grind
    rw [this, ss, Int.one_mul]; exact Int.mul_nonneg (by omega) (by omega)
theorem span_lv {P Q R : Pt} (hne : P ≠ Q) : span P Q R = gd P Q * (act (lv P Q) R).2 := by
  obtain ⟨s, t, hl, _⟩ := lv_ok hne
  have := span_act (lv P Q) P Q R
  rw [hl.at0, hl.at1, hl.mv, Int.one_mul] at this
  rw [← this]
  unfold span; grind
end Hull
namespace Hull
open DL PySem PySem.Spec PyProof.Rows L2 Mov
theorem tri_sum (P Q R S : Pt) : span R P S + span P Q S + span Q R S = span P Q R := by unfold span; grind
theorem tri_at (P Q R S : Pt) : span P Q R * (S.1 - P.1) = span R P S * (Q.1 - P.1) + span P Q S * (R.1 - P.1) ∧ span P Q R * (S.2 - P.2) = span R P S * (Q.2 - P.2) + span P Q S * (R.2 - P.2) := by
  unfold span; constructor <;> grind
theorem tri_rot (P Q R : Pt) : span Q R P = span P Q R := by unfold span; grind
theorem tri_corner {P Q R S : Pt} (h : span P Q R ≠ 0) (a : span R P S = 0) (b : span P Q S = 0) : S = P := by
  obtain ⟨e1, e2⟩ := tri_at P Q R S
  rw [a, b] at e1 e2
  have e1 : span P Q R * (S.1 - P.1) = 0 := by rw [e1]; simp
  have e2 : span P Q R * (S.2 - P.2) = 0 := by rw [e2]; simp
  have f1 := (Int.mul_eq_zero.mp e1).resolve_left h
  have f2 := (Int.mul_eq_zero.mp e2).resolve_left h
  obtain ⟨x, y⟩ := S
  obtain ⟨u, v⟩ := P
  have f1 : x - u = 0 := f1
  have f2 : y - v = 0 := f2
  rw [show x = u by omega, show y = v by omega]
theorem tri_only {P Q R S : Pt} (h : (span P Q R).natAbs = 1) (t : InTri P Q R S) : S = P ∨ S = Q ∨ S = R := by
  have hs := tri_sum P Q R S
  have h0 : span P Q R ≠ 0 := by omega
  have hq : span Q R P ≠ 0 := by rw [tri_rot]; exact h0
  have hr : span R P Q ≠ 0 := by rw [← tri_rot R P Q]; exact h0
  obtain ⟨a, b, c⟩ := t
  have hh : span P Q R = 1 ∨ span P Q R = -1 := by omega
  rcases hh with e | e
  · rw [e] at a b c hs
    by_cases ea : span R P S = 0
    · by_cases eb : span P Q S = 0
      · exact .inl (tri_corner h0 ea eb)
      · exact .inr (.inr (tri_corner hr (by omega) ea))
    · exact .inr (.inl (tri_corner hq (by omega) (by omega)))
  · rw [e] at a b c hs
    by_cases ea : span R P S = 0
    · by_cases eb : span P Q S = 0
      · exact .inl (tri_corner h0 ea eb)
      · exact .inr (.inr (tri_corner hr (by omega) ea))
    · exact .inr (.inl (tri_corner hq (by omega) (by omega)))
end Hull
/-! a thing is like itself; places of a list -/
namespace DL
open PySem PySem.Spec PyProof.Rows L2
mutual
theorem eqD_refl : ∀ (n : Nat) (d : Dat), shp n d = true → eqD d d = true
  | n, .non, _ => by unfold eqD; rfl
  | n, .bl b, _ => by unfold eqD; cases b <;> rfl
  | n, .int i, _ => by unfold eqD; exact beq_self_eq_true i
  | n, .str x, _ => by unfold eqD; exact beq_self_eq_true x
  | n + 1, .tup ds, h => by unfold eqD; unfold shp at h; exact eqDL_refl n ds h
  | n + 1, .lst ds, h => by unfold eqD; unfold shp at h; exact eqDL_refl n ds h
  | 0, .tup ds, h => by unfold shp at h; exact nomatch h
  | 0, .lst ds, h => by unfold shp at h; exact nomatch h
  | 0, .dic ks, h => by unfold shp at h; exact nomatch h
  | n + 1, .dic ks, h => by unfold shp at h; exact nomatch h
theorem eqDL_refl : ∀ (n : Nat) (ds : List Dat), shpL n ds = true → eqDL ds ds = true
  | n, [], _ => by unfold eqDL; rfl
  | n, d :: ds, h => by
    unfold shpL at h
    rw [Bool.and_eq_true] at h
    unfold eqDL
    rw [eqD_refl n d h.1, eqDL_refl n ds h.2]; rfl
end
theorem shpL_append (n : Nat) : ∀ {ds es : List Dat}, shpL n ds = true → shpL n es = true → shpL n (ds ++ es) = true
  | [], es, _, h => h
  | d :: ds, es, h, h' => by
    unfold shpL at h
    rw [Bool.and_eq_true] at h
    rw [List.cons_append]
    unfold shpL
    rw [h.1, shpL_append n h.2 h']; rfl
mutual
theorem shp_up {n m : Nat} (h : n ≤ m) : ∀ {d : Dat}, shp n d = true → shp m d = true
  | .non, _ => by unfold shp; rfl
  | .bl b, _ => by unfold shp; rfl
  | .int i, _ => by unfold shp; rfl
  | .str x, hd => by unfold shp at hd ⊢; exact hd
  | .tup ds, hd => by
    match n, m, h, hd with
    | 0, _, _, hd => unfold shp at hd; exact nomatch hd
    | n + 1, m + 1, h, hd => unfold shp at hd ⊢; exact shpL_up (Nat.le_of_succ_le_succ h) hd
  | .lst ds, hd => by
    match n, m, h, hd with
    | 0, _, _, hd => unfold shp at hd; exact nomatch hd
    | n + 1, m + 1, h, hd => unfold shp at hd ⊢; exact shpL_up (Nat.le_of_succ_le_succ h) hd
  | .dic ks, hd => by
    match n, hd with
    | 0, hd => unfold shp at hd; exact nomatch hd
    | n + 1, hd => unfold shp at hd; exact nomatch hd
theorem shpL_up {n m : Nat} (h : n ≤ m) : ∀ {ds : List Dat}, shpL n ds = true → shpL m ds = true
  | [], _ => by unfold shpL; rfl
  | d :: ds, hd => by
    unfold shpL at hd ⊢
    rw [Bool.and_eq_true] at hd ⊢
    exact ⟨shp_up h hd.1, shpL_up h hd.2⟩
end
theorem shpL_ints (n : Nat) : ∀ l : List Int, shpL n (l.map Dat.int) = true
  | [] => by unfold shpL; rfl
  | i :: l => by
    rw [List.map_cons]
    unfold shpL
    rw [shpL_ints n l]
    cases n <;> rfl
theorem ixN_nat {n j : Nat} (h : j < n) : ixN n (j : Int) = some j := by
  unfold ixN
  simp [h]
theorem at_end {α : Type} {f : α → Dat} {xs : List α} (h : xs ≠ []) : ∃ x ∈ xs, atI (xs.map f) (-1) = some (f x) := by
  have hl : 0 < xs.length := List.length_pos_iff.mpr h
  refine ⟨xs[xs.length - 1], List.getElem_mem _, ?_⟩
  unfold atI ixN
  rw [if_neg (by decide), if_pos (by rw [List.length_map]; omega)]
  have : ((-1 : Int) + ((xs.map f).length : Int)).toNat = xs.length - 1 := by rw [List.length_map]; omega
  rw [this]
  show (xs.map f)[xs.length - 1]? = _
  rw [List.getElem?_map, List.getElem?_eq_getElem (by omega)]; rfl
theorem at_first {α : Type} {f : α → Dat} {xs : List α} (h : xs ≠ []) : ∃ x ∈ xs, atI (xs.map f) 0 = some (f x) := by
  match xs, h with
  | x :: xs, _ => exact ⟨x, by simp, at_mapI (j := 0) rfl rfl⟩
theorem eqD_ints (l m : List Int) : eqD (.lst (l.map Dat.int)) (.lst (m.map Dat.int)) = decide (l = m) := by
  unfold eqD
  induction l generalizing m with
  | nil => cases m with
    | nil => unfold eqDL; simp
    | cons b m => rw [List.map_cons]; simp [eqDL]
  | cons a l ih => cases m with
    | nil => rw [List.map_cons]; simp [eqDL]
    | cons b m =>
      rw [List.map_cons, List.map_cons]
      unfold eqDL
      rw [ih]
      have : eqD (.int a) (.int b) = (a == b) := by unfold eqD; rfl
      rw [this, Bool.eq_iff_iff]
      simp
theorem own_ind {k : Nat} {all : List Dat} {g : DG} {t : DT} {a : DS} {κ : DEnds} (I : List Sl → Prop) (fin : ∀ ρ, I ρ → κ.nx ρ) : ∀ (ds : List Dat),
    (∀ d ∈ ds, ∀ (ρ : List Sl) (N : List Sl → Prop), I ρ → (∀ ρ', I ρ' → N ρ') → g (.v d) ρ (fun ρ1 => ρ1[k]? = some (.ow all) ∧ t ρ1 (fun c => if c = true then a { κ with nx := fun _ => False, ct := fun _ => False, bk := fun _ => False } ρ1 else N ρ1) (fun nm => κ.ex nm ρ1))) → ∀ {ρ : List Sl}, I ρ → sOwnL k all g t a κ ds ρ
  | [], _, ρ, h => fin ρ h
  | d :: ds, step, ρ, h => step d (by simp) ρ _ h fun ρ' h' => own_ind I fin ds (fun e he => step e (List.mem_cons_of_mem _ he)) h'
theorem cutD_drop (ds : List Dat) {j : Nat} (hj : j ≤ ds.length) : cutD ds (some (j : Int)) none = ds.drop j := by
  unfold cutD
  rw [HT.sIx_none, HT.sIx_nat, Nat.min_eq_left hj]
  exact List.take_of_length_le (by rw [List.length_drop]; omega)
theorem nine {a b c d e f g h i : Dat} {n : Int} {P : Dat → Prop} (h0 : P a) (h1 : P b) (h2 : P c) (h3 : P d) (h4 : P e) (h5 : P f) (h6 : P g) (h7 : P h) (h8 : P i) : onS (atI [a, b, c, d, e, f, g, h, i] (n % 9)) P := by
  have : ∃ k : Nat, k < 9 ∧ n % 9 = (k : Int) := ⟨(n % 9).toNat, by omega, by omega⟩
  obtain ⟨k, hk, e⟩ := this
  rw [e]
  match k, hk with
  | 0, _ => exact onS_some rfl h0
  | 1, _ => exact onS_some rfl h1
  | 2, _ => exact onS_some rfl h2
  | 3, _ => exact onS_some rfl h3
  | 4, _ => exact onS_some rfl h4
  | 5, _ => exact onS_some rfl h5
  | 6, _ => exact onS_some rfl h6
  | 7, _ => exact onS_some rfl h7
  | 8, _ => exact onS_some rfl h8
end DL
/-! corners by sorting and walking -/
namespace Hull
open DL PySem PySem.Spec PyProof.Rows L2
instance (p q : Pt) : Decidable (LtP p q) := by unfold LtP; infer_instance
theorem ltp_irr (p : Pt) : ¬ LtP p p := by unfold LtP; omega
theorem ltp_tr {p q r : Pt} (h : LtP p q) (h' : LtP q r) : LtP p r := by unfold LtP at *; omega
theorem ltp_tot {p q : Pt} (h : p ≠ q) : LtP p q ∨ LtP q p := by
  unfold LtP
  by_cases h1 : p.1 = q.1
  · have : p.2 ≠ q.2 := fun e => h (Prod.ext h1 e)
    omega
  · omega
def ins (p : Pt) : List Pt → List Pt
  | [] => [p]
  | q :: r => if p = q then q :: r else if LtP p q then p :: q :: r else q :: ins p r
def srt (ps : List Pt) : List Pt := ps.foldr ins []
theorem mem_ins (p x : Pt) : ∀ l : List Pt, x ∈ ins p l ↔ x = p ∨ x ∈ l
  | [] => by simp [ins]
  | q :: r => by
    unfold ins
    split
    · rename_i e; subst e; simp
    · split
      · simp
      · rw [List.mem_cons, mem_ins p x r, List.mem_cons]
        constructor
        · rintro (h | h | h) <;> simp [h]
        · rintro (h | h | h) <;> simp [h]
theorem pw_ins (p : Pt) : ∀ l : List Pt, l.Pairwise LtP → (ins p l).Pairwise LtP
  | [], _ => by simp [ins]
  | q :: r, h => by
    rw [List.pairwise_cons] at h
    unfold ins
    split
    · exact List.pairwise_cons.mpr h
    · rename_i ne
      split
      · rename_i lt
        refine List.pairwise_cons.mpr ⟨fun x hx => ?_, List.pairwise_cons.mpr h⟩
        rcases List.mem_cons.mp hx with rfl | hx
        · exact lt
        · exact ltp_tr lt (h.1 x hx)
      · rename_i nl
        refine List.pairwise_cons.mpr ⟨fun x hx => ?_, pw_ins p r h.2⟩
        rcases (mem_ins p x r).mp hx with rfl | hx
        · exact (ltp_tot ne).resolve_left nl
        · exact h.1 x hx
theorem mem_srt (ps : List Pt) (x : Pt) : x ∈ srt ps ↔ x ∈ ps := by
  unfold srt
  induction ps with
  | nil => simp
  | cons p ps ih => rw [List.foldr_cons, mem_ins, ih, List.mem_cons]
theorem pw_srt (ps : List Pt) : (srt ps).Pairwise LtP := by
  unfold srt
  induction ps with
  | nil => simp
  | cons p ps ih => rw [List.foldr_cons]; exact pw_ins p _ ih
theorem pw_uniq : ∀ {l m : List Pt}, l.Pairwise LtP → m.Pairwise LtP → (∀ x, x ∈ l ↔ x ∈ m) → l = m
  | [], [], _, _, _ => rfl
  | [], q :: m, _, _, h => absurd ((h q).mpr (by simp)) (by simp)
  | p :: l, [], _, _, h => absurd ((h p).mp (by simp)) (by simp)
  | p :: l, q :: m, hl, hm, h => by
    rw [List.pairwise_cons] at hl hm
    have e : p = q := by
      have h1 := (h p).mp (by simp)
      have h2 := (h q).mpr (by simp)
      rcases List.mem_cons.mp h1 with e | h1
      · exact e
      · rcases List.mem_cons.mp h2 with e | h2
        · exact e.symm
        · exact absurd (ltp_tr (hl.1 q h2) (hm.1 p h1)) (ltp_irr p)
    subst e
    rw [pw_uniq hl.2 hm.2 fun x => ?_]
    constructor
    · intro hx
      rcases List.mem_cons.mp ((h x).mp (List.mem_cons_of_mem _ hx)) with e | hx'
      · subst e; exact absurd (hl.1 x hx) (ltp_irr x)
      · exact hx'
    · intro hx
      rcases List.mem_cons.mp ((h x).mpr (List.mem_cons_of_mem _ hx)) with e | hx'
      · subst e; exact absurd (hm.1 x hx) (ltp_irr x)
      · exact hx'
theorem srt_uniq {L ps : List Pt} (h : L.Pairwise LtP) (hm : ∀ p, p ∈ L ↔ p ∈ ps) : L = srt ps := pw_uniq h (pw_srt ps) fun x => (hm x).trans (mem_srt ps x).symm
theorem srt_congr {ps qs : List Pt} (h : ∀ p, p ∈ ps ↔ p ∈ qs) : srt ps = srt qs := srt_uniq (pw_srt ps) fun p => (mem_srt ps p).trans (h p)
theorem ins_len (p : Pt) : ∀ l : List Pt, (ins p l).length ≤ l.length + 1
  | [] => by simp [ins]
  | q :: r => by
    unfold ins
    split
    · simp
    · split
      · simp
      · have := ins_len p r
        simp only [List.length_cons]; omega
theorem srt_len (ps : List Pt) : (srt ps).length ≤ ps.length := by
  unfold srt
  induction ps with
  | nil => simp
  | cons p ps ih =>
    rw [List.foldr_cons]
    have := ins_len p (ps.foldr ins [])
    rw [List.length_cons]; omega
/-- take away from the top while the turn is not to the left -/
def popd : List Pt → Pt → List Pt
  | b :: a :: r, p => if span a b p ≤ 0 then popd (a :: r) p else b :: a :: r
  | s, _ => s
def push (s : List Pt) (p : Pt) : List Pt := p :: popd s p
def stk (ps : List Pt) : List Pt := ps.foldl push []
def half (ps : List Pt) : List Pt := (stk ps).reverse
def hull (ps : List Pt) : List Pt := if (srt ps).length = 1 then srt ps else (half (srt ps)).dropLast ++ (half (srt ps).reverse).dropLast
theorem popd_mem (p : Pt) : ∀ (s : List Pt), ∀ x ∈ popd s p, x ∈ s
  | [], x, h => h
  | [a], x, h => h
  | b :: a :: r, x, h => by
    unfold popd at h
    split at h
    · exact List.mem_cons_of_mem _ (popd_mem p (a :: r) x h)
    · exact h
theorem popd_len (p : Pt) : ∀ (s : List Pt), (popd s p).length ≤ s.length
  | [] => Nat.le_refl _
  | [a] => Nat.le_refl _
  | b :: a :: r => by
    unfold popd
    split
    · have := popd_len p (a :: r)
      simp only [List.length_cons] at *; omega
    · exact Nat.le_refl _
theorem stk_snoc (ps : List Pt) (p : Pt) : stk (ps ++ [p]) = push (stk ps) p := by unfold stk; rw [List.foldl_append]; rfl
theorem stk_take {ps : List Pt} {i : Nat} {p : Pt} (h : ps[i]? = some p) : stk (ps.take (i + 1)) = push (stk (ps.take i)) p := by
  rw [List.take_add_one, h]; exact stk_snoc _ p
theorem foldl_push (P : Pt → Prop) : ∀ (ps s : List Pt), (∀ x ∈ s, P x) → (∀ x ∈ ps, P x) → (∀ x ∈ ps.foldl push s, P x) ∧ (ps.foldl push s).length ≤ s.length + ps.length
  | [], s, hs, _ => ⟨hs, by simp⟩
  | p :: ps, s, hs, hp => by
    have h := foldl_push P ps (push s p) (fun x hx => by
      rcases List.mem_cons.mp hx with rfl | hx
      · exact hp _ (by simp)
      · exact hs x (popd_mem p s x hx)) (fun x hx => hp x (by simp [hx]))
    refine ⟨h.1, ?_⟩
    have h2 := popd_len p s
    have h3 : (push s p).length = (popd s p).length + 1 := rfl
    have := h.2
    rw [List.foldl_cons, List.length_cons]; omega
theorem half_all {P : Pt → Prop} {ps : List Pt} (h : ∀ x ∈ ps, P x) : (∀ x ∈ half ps, P x) ∧ (half ps).length ≤ ps.length := by
  have := foldl_push P ps [] (by simp) h
  unfold half
  refine ⟨fun x hx => this.1 x (List.mem_reverse.mp hx), ?_⟩
  rw [List.length_reverse]
  have h2 := this.2
  simp only [List.length_nil, Nat.zero_add] at h2
  exact h2
theorem hull_all {P : Pt → Prop} {ps : List Pt} (h : ∀ x ∈ ps, P x) : (∀ x ∈ hull ps, P x) ∧ (hull ps).length ≤ 2 * ps.length := by
  have hs : ∀ x ∈ srt ps, P x := fun x hx => h x ((mem_srt ps x).mp hx)
  have h1 := half_all hs
  have h2 := half_all (P := P) (ps := (srt ps).reverse) fun x hx => hs x (List.mem_reverse.mp hx)
  have hl := srt_len ps
  unfold hull
  split
  · exact ⟨hs, by omega⟩
  · refine ⟨fun x hx => ?_, ?_⟩
    · rcases List.mem_append.mp hx with hx | hx
      · exact h1.1 x (List.dropLast_subset _ hx)
      · exact h2.1 x (List.dropLast_subset _ hx)
    · rw [List.length_append, List.length_dropLast, List.length_dropLast]
      have := h1.2
      have := h2.2
      rw [List.length_reverse] at this
      omega
theorem hull_congr {ps qs : List Pt} (h : ∀ p, p ∈ ps ↔ p ∈ qs) : hull ps = hull qs := by unfold hull; rw [srt_congr h]
theorem hull_nil : hull [] = [] := rfl
/-! places of a stk -/
theorem at_top {b : Pt} {r : List Pt} : atI ((b :: r).reverse.map pt) (-1) = some (pt b) := by
  rw [List.reverse_cons, List.map_append]
  unfold atI ixN
  rw [if_neg (by decide), if_pos (by simp; omega)]
  have : ((-1 : Int) + ((List.map pt r.reverse ++ List.map pt [b]).length : Int)).toNat = r.length := by simp; omega
  rw [this]
  simp
theorem at_next {a b : Pt} {r : List Pt} : atI ((b :: a :: r).reverse.map pt) (-2) = some (pt a) := by
  rw [List.reverse_cons, List.reverse_cons, List.map_append, List.map_append]
  unfold atI ixN
  rw [if_neg (by decide), if_pos (by simp; omega)]
  have : ((-2 : Int) + ((List.map pt r.reverse ++ List.map pt [a] ++ List.map pt [b]).length : Int)).toNat = r.length := by simp; omega
  rw [this]
  simp
theorem pop_at {b : Pt} {r : List Pt} : ((b :: r).reverse.map pt)[((b :: r).reverse.map pt).length - 1]? = some (pt b) := by
  rw [List.reverse_cons, List.map_append]; simp
theorem pop_rest {b : Pt} {r : List Pt} : ((b :: r).reverse.map pt).dropLast = r.reverse.map pt := by
  rw [List.reverse_cons, List.map_append]; simp
theorem push_rest {p : Pt} {r : List Pt} : r.reverse.map pt ++ [pt p] = (p :: r).reverse.map pt := by
  rw [List.reverse_cons, List.map_append]; rfl
theorem cut_last (ps : List Pt) : DL.cutD (ps.map pt) none (some (-1)) = ps.dropLast.map pt := by
  unfold DL.cutD HT.sIx
  have : ((-1 : Int) + ((ps.map pt).length : Int)).toNat = ps.length - 1 := by rw [List.length_map]; omega
  show ((ps.map pt).drop 0).take ((if (-1 : Int) < 0 then (-1 + ((ps.map pt).length : Int)).toNat else _) - 0) = _
  rw [if_pos (by decide), this, List.drop_zero, Nat.sub_zero, List.dropLast_eq_take, List.map_take]
end Hull
/-! corners by sorting and walking: what they are -/
namespace Hull
open DL PySem PySem.Spec PyProof.Rows L2
def cr (d e : Pt) : Int := d.1 * e.2 - d.2 * e.1
def LP (d : Pt) : Prop := 0 < d.1 ∨ (d.1 = 0 ∧ 0 < d.2)
def LP0 (d : Pt) : Prop := 0 < d.1 ∨ (d.1 = 0 ∧ 0 ≤ d.2)
def sb (p q : Pt) : Pt := (p.1 - q.1, p.2 - q.2)
theorem lp_of {p q : Pt} (h : LtP p q) : LP (sb q p) := by unfold LP sb; unfold LtP at h; dsimp only; omega
theorem lp0_of {p q : Pt} (h : p = q ∨ LtP p q) : LP0 (sb q p) := by
  unfold LP0 sb
  rcases h with rfl | h
  · dsimp only; omega
  · unfold LtP at h; dsimp only; omega
theorem LP.to0 {d : Pt} (h : LP d) : LP0 d := by unfold LP at h; unfold LP0; omega
/-- slopes that do not fall, from the first by the second to the third -/
theorem cr_trans {d e f : Pt} (he : LP e) (hd : LP0 d) (hf : LP0 f) (h1 : 0 ≤ cr d e) (h2 : 0 ≤ cr e f) : 0 ≤ cr d f := by
  have id : e.1 * cr d f = d.1 * cr e f + f.1 * cr d e := by unfold cr; grind
  rcases he with he | ⟨he, he2⟩
  · have hd0 : 0 ≤ d.1 := by unfold LP0 at hd; omega
    have hf0 : 0 ≤ f.1 := by unfold LP0 at hf; omega
    have : 0 ≤ e.1 * cr d f := by
      rw [id]; exact Int.add_nonneg (Int.mul_nonneg hd0 h2) (Int.mul_nonneg hf0 h1)
    exact Int.nonneg_of_mul_nonneg_right this he
  · have hf0 : 0 ≤ f.1 := by unfold LP0 at hf; omega
    have hx : f.1 = 0 := by
      unfold cr at h2
      rw [he, Int.zero_mul, Int.zero_sub] at h2
      by_cases z : f.1 = 0
      · exact z
      · have := Int.mul_pos he2 (show 0 < f.1 by omega)
        omega
    have hf1 : 0 ≤ f.2 := by unfold LP0 at hf; omega
    have hd0 : 0 ≤ d.1 := by unfold LP0 at hd; omega
    unfold cr
    rw [hx, Int.mul_zero, Int.sub_zero]
    exact Int.mul_nonneg hd0 hf1
/-- along one line, farther on -/
theorem par_pos {d e f : Pt} (hd : LP d) (he : LP e) (h : cr d e = 0) (hf : 0 < cr d f) : 0 < cr e f := by
  rcases hd with hd | ⟨hd, hd2⟩
  · have id : d.1 * cr e f = e.1 * cr d f := by unfold cr at *; grind
    have he1 : 0 < e.1 := by
      rcases he with he | ⟨he, he2⟩
      · exact he
      · unfold cr at h
        rw [he, Int.mul_zero, Int.sub_zero] at h
        have := Int.mul_pos hd he2
        omega
    have : 0 < d.1 * cr e f := by rw [id]; exact Int.mul_pos he1 hf
    exact Int.pos_of_mul_pos_right this hd
  · have hex : e.1 = 0 := by
      unfold cr at h
      rw [hd, Int.zero_mul, Int.zero_sub] at h
      have h : d.2 * e.1 = 0 := by omega
      rcases Int.mul_eq_zero.mp h with z | z
      · omega
      · exact z
    have he2 : 0 < e.2 := by unfold LP at he; omega
    have id : d.2 * cr e f = e.2 * cr d f := by unfold cr; rw [hex, hd]; grind
    have : 0 < d.2 * cr e f := by rw [id]; exact Int.mul_pos he2 hf
    exact Int.pos_of_mul_pos_right this hd2
theorem span_cr (a b c : Pt) : span a b c = cr (sb b a) (sb c a) := rfl
theorem span_cr2 (a b c : Pt) : span a b c = cr (sb b a) (sb c b) := by unfold span cr sb; grind
theorem span_self1 (a b : Pt) : span a b a = 0 := by unfold span; grind
theorem span_self2 (a b : Pt) : span a b b = 0 := by unfold span; grind
theorem span_self3 (a b : Pt) : span a a b = 0 := by unfold span; grind
theorem span_rot (a b c : Pt) : span a b c = span b c a := by unfold span; grind
theorem span_swap (a b c : Pt) : span a b c = - span b a c := by unfold span; grind
theorem span_swap2 (a b c : Pt) : span a b c = - span a c b := by unfold span; grind
/-! ### a stack, the top ahead -/
def RLft (S : Pt → Prop) : List Pt → Prop
  | b :: a :: r => (∀ p, S p → 0 ≤ span a b p) ∧ RLft S (a :: r)
  | _ => True
def RTrn : List Pt → Prop
  | c :: b :: a :: r => 0 < span a b c ∧ RTrn (b :: a :: r)
  | _ => True
structure RCh (S : Pt → Prop) (s : List Pt) : Prop where
  so : s.Pairwise fun x y => LtP y x
  lf : RLft S s
  tr : RTrn s
  mem : ∀ p ∈ s, S p
theorem RTrn.tail {b : Pt} {s : List Pt} (h : RTrn (b :: s)) : RTrn s := by
  match s, h with
  | [], _ => trivial
  | [_], _ => trivial
  | _ :: _ :: _, h => exact h.2
theorem RLft.tail {S : Pt → Prop} {b : Pt} {s : List Pt} (h : RLft S (b :: s)) : RLft S s := by
  match s, h with
  | [], _ => trivial
  | _ :: _, h => exact h.2
theorem RCh.tail {S : Pt → Prop} {b : Pt} {s : List Pt} (h : RCh S (b :: s)) : RCh S s :=
  ⟨(List.pairwise_cons.mp h.so).2, h.lf.tail, h.tr.tail, fun p hp => h.mem p (List.mem_cons_of_mem _ hp)⟩
/-- all edges have on their left what the top edge has there -/
theorem lft_all {S : Pt → Prop} {p : Pt} : ∀ (a b : Pt) (r : List Pt), RCh S (b :: a :: r) → LtP b p → 0 ≤ span a b p → RLft (fun q => S q ∨ q = p) (b :: a :: r)
  | a, b, [], h, hp, h1 => ⟨fun q hq => by
      rcases hq with hq | rfl
      · exact h.lf.1 q hq
      · exact h1, trivial⟩
  | a, b, z :: r, h, hp, h1 => by
    have hs := List.pairwise_cons.mp h.so
    have hs2 := List.pairwise_cons.mp hs.2
    have ab : LtP a b := hs.1 a (by simp)
    have za : LtP z a := hs2.1 z (by simp)
    have t : 0 < span z a b := h.tr.1
    rw [span_cr2] at t h1
    have d : 0 ≤ cr (sb a z) (sb p b) := cr_trans (lp_of ab) (lp_of za).to0 (lp_of hp).to0 (Int.le_of_lt t) h1
    have e : 0 ≤ span z a p := by
      rw [span_cr2]
      have : cr (sb a z) (sb p a) = cr (sb a z) (sb b a) + cr (sb a z) (sb p b) := by unfold cr sb; grind
      omega
    refine ⟨fun q hq => ?_, lft_all z a r h.tail (ltp_tr ab hp) e⟩
    rcases hq with hq | rfl
    · exact h.lf.1 q hq
    · rw [span_cr2]; exact h1
/-- the stack when one more point, farther on, is put to it -/
theorem push_ch {S : Pt → Prop} {p : Pt} (hp : ∀ q, S q → LtP q p) : ∀ (s : List Pt), s ≠ [] → RCh S s → (∀ b r, s = b :: r → ∀ q, S q → (q = b ∨ LtP b q) → 0 ≤ span b p q) → (∀ b, s = [b] → ∀ q, S q → q = b ∨ LtP b q) → (∀ q, S q → ∃ b ∈ s, q = b ∨ LtP b q) → RCh (fun q => S q ∨ q = p) (p :: popd s p) ∧ popd s p ≠ [] ∧ (popd s p).getLast? = s.getLast?
  | [], h, _, _, _, _ => absurd rfl h
  | [b], _, h, inv, bot, _ => by
    refine ⟨⟨?_, ?_, trivial, ?_⟩, by simp [popd], rfl⟩
    · show List.Pairwise _ [p, b]
      rw [List.pairwise_cons]
      exact ⟨fun q hq => by rw [List.mem_singleton.mp hq]; exact hp b (h.mem b (by simp)), by simp⟩
    · refine ⟨fun q hq => ?_, trivial⟩
      rcases hq with hq | rfl
      · exact inv b [] rfl q hq (bot b rfl q hq)
      · rw [span_self2]; exact Int.le_refl _
    · intro q hq
      rcases List.mem_cons.mp hq with rfl | hq
      · exact .inr rfl
      · exact .inl (h.mem q hq)
  | b :: a :: r, _, h, inv, bot, low => by
    have hs := List.pairwise_cons.mp h.so
    have ab : LtP a b := hs.1 a (by simp)
    have bp := hp b (h.mem b (by simp))
    have ap := hp a (h.mem a (by simp))
    by_cases c : span a b p ≤ 0
    · have e : popd (b :: a :: r) p = popd (a :: r) p := by
        conv => lhs; unfold popd
        rw [if_pos c]
      rw [e]
      have inv' : ∀ b' r', a :: r = b' :: r' → ∀ q, S q → (q = b' ∨ LtP b' q) → 0 ≤ span b' p q := by
        intro b' r' eb q hq hb
        injection eb with eb _
        subst eb
        have hl := h.lf.1 q hq
        by_cases hqb : q = b ∨ LtP b q
        · have i1 := inv b (a :: r) rfl q hq hqb
          have id : span a p q = cr (sb b a) (sb q b) + cr (sb p b) (sb b a) + cr (sb p b) (sb q b) := by unfold span cr sb; grind
          rw [span_cr2] at hl c
          have c2 : cr (sb p b) (sb b a) = - cr (sb b a) (sb p b) := by unfold cr; grind
          have i2 : span b p q = cr (sb p b) (sb q b) := rfl
          omega
        · have qb : LtP q b := (ltp_tot fun e => hqb (.inl e)).resolve_right fun e => hqb (.inr e)
          refine cr_trans (e := sb b a) (lp_of ab) (lp_of ap).to0 (lp0_of (hb.imp Eq.symm id)) ?_ hl
          have : cr (sb p a) (sb b a) = - span a b p := by unfold cr span sb; grind
          omega
      have bot' : ∀ b', a :: r = [b'] → ∀ q, S q → q = b' ∨ LtP b' q := by
        intro b' eb q hq
        injection eb with eb er
        subst eb er
        obtain ⟨x, hx, hxq⟩ := low q hq
        simp only [List.mem_cons, List.not_mem_nil, or_false] at hx
        rcases hx with rfl | rfl
        · right
          rcases hxq with rfl | hxq
          · exact ab
          · exact ltp_tr ab hxq
        · exact hxq
      have low' : ∀ q, S q → ∃ b' ∈ a :: r, q = b' ∨ LtP b' q := by
        intro q hq
        obtain ⟨x, hx, hxq⟩ := low q hq
        rcases List.mem_cons.mp hx with rfl | hx
        · refine ⟨a, by simp, .inr ?_⟩
          rcases hxq with rfl | hxq
          · exact ab
          · exact ltp_tr ab hxq
        · exact ⟨x, hx, hxq⟩
      have ih := push_ch hp (a :: r) (by simp) h.tail inv' bot' low'
      exact ⟨ih.1, ih.2.1, by rw [ih.2.2]; rfl⟩
    · have e : popd (b :: a :: r) p = b :: a :: r := by
        unfold popd; rw [if_neg c]
      rw [e]
      refine ⟨⟨?_, ⟨?_, ?_⟩, ⟨by omega, h.tr⟩, ?_⟩, by simp, rfl⟩
      · rw [List.pairwise_cons]
        exact ⟨fun q hq => hp q (h.mem q hq), h.so⟩
      · intro q hq
        rcases hq with hq | rfl
        · by_cases hqb : q = b ∨ LtP b q
          · exact inv b (a :: r) rfl q hq hqb
          · have qb : LtP q b := (ltp_tot fun e => hqb (.inl e)).resolve_right fun e => hqb (.inr e)
            have hl := h.lf.1 q hq
            have c1 : 0 ≤ cr (sb b q) (sb b a) := by
              have : cr (sb b q) (sb b a) = span a b q := by unfold cr span sb; grind
              omega
            have c2 : 0 ≤ cr (sb b a) (sb p b) := by rw [← span_cr2]; omega
            have := cr_trans (lp_of ab) (lp_of qb).to0 (lp_of bp).to0 c1 c2
            have id : span b p q = cr (sb b q) (sb p b) := by unfold cr span sb; grind
            omega
        · rw [span_self2]; exact Int.le_refl _
      · exact lft_all a b r h bp (by omega)
      · intro q hq
        rcases List.mem_cons.mp hq with rfl | hq
        · exact .inr rfl
        · exact .inl (h.mem q hq)
end Hull
/-! the chain of a sorted list; one alone -/
namespace Hull
open DL PySem PySem.Spec PyProof.Rows L2
theorem RLft.mono {S S' : Pt → Prop} (h : ∀ p, S' p → S p) : ∀ {s : List Pt}, RLft S s → RLft S' s
  | [], _ => trivial
  | [_], _ => trivial
  | _ :: a :: r, h1 => ⟨fun p hp => h1.1 p (h p hp), RLft.mono h h1.2⟩
theorem RCh.to {S S' : Pt → Prop} {s : List Pt} (h : RCh S s) (hs : ∀ p, S' p → S p) (hm : ∀ p ∈ s, S' p) : RCh S' s := ⟨h.so, h.lf.mono hs, h.tr, hm⟩
theorem last_le : ∀ {x : Pt} {t : List Pt} {y : Pt}, (x :: t).Pairwise (fun x y => LtP y x) → (x :: t).getLast? = some y → y = x ∨ LtP y x
  | x, t, y, h, e => by
    have hy := List.mem_of_getLast? e
    rcases List.mem_cons.mp hy with rfl | hy
    · exact .inl rfl
    · exact .inr ((List.pairwise_cons.mp h).1 y hy)
theorem last_all : ∀ {t : List Pt} {y : Pt}, t.Pairwise (fun x y => LtP y x) → t.getLast? = some y → ∀ q ∈ t, q = y ∨ LtP y q
  | [], y, _, e, q, hq => absurd hq (by simp)
  | [x], y, _, e, q, hq => by
    simp only [List.getLast?_singleton, Option.some.injEq] at e
    rw [List.mem_singleton.mp hq]
    exact .inl e
  | x :: x' :: t, y, h, e, q, hq => by
    rw [List.getLast?_cons_cons] at e
    have h' := List.pairwise_cons.mp h
    rcases List.mem_cons.mp hq with rfl | hq
    · exact .inr (h'.1 y (List.mem_of_getLast? e))
    · exact last_all h'.2 e q hq
/-- the last of a sorted list is its greatest -/
theorem srtd_last : ∀ {t : List Pt} {y : Pt}, t.Pairwise LtP → t.getLast? = some y → ∀ q ∈ t, q = y ∨ LtP q y
  | [], y, _, e, q, hq => absurd hq (by simp)
  | [x], y, _, e, q, hq => by
    simp only [List.getLast?_singleton, Option.some.injEq] at e
    rw [List.mem_singleton.mp hq]
    exact .inl e
  | x :: x' :: t, y, h, e, q, hq => by
    rw [List.getLast?_cons_cons] at e
    have h' := List.pairwise_cons.mp h
    rcases List.mem_cons.mp hq with rfl | hq
    · exact .inr (h'.1 y (List.mem_of_getLast? e))
    · exact srtd_last h'.2 e q hq
theorem srtd_head {t : List Pt} {y : Pt} (h : t.Pairwise LtP) (e : t.head? = some y) : ∀ q ∈ t, q = y ∨ LtP y q := by
  match t, e with
  | x :: t, e =>
    cases e
    intro q hq
    rcases List.mem_cons.mp hq with rfl | hq
    · exact .inl rfl
    · exact .inr ((List.pairwise_cons.mp h).1 q hq)
theorem stk_ch (n : Nat) : ∀ L : List Pt, L.length = n → L ≠ [] → L.Pairwise LtP → RCh (· ∈ L) (stk L) ∧ (stk L).head? = L.getLast? ∧ (stk L).getLast? = L.head? := by
  induction n with
  | zero => intro L hl h0; exact absurd (List.length_eq_zero_iff.mp hl) h0
  | succ n ih =>
    intro L hl h0 hp
    obtain ⟨M, p, rfl⟩ : ∃ M p, L = M ++ [p] := ⟨_, _, (List.dropLast_concat_getLast h0).symm⟩
    rw [List.length_append, List.length_singleton] at hl
    rw [stk_snoc]
    by_cases hM : M = []
    · subst hM
      refine ⟨⟨by simp [push, popd, stk], trivial, trivial, by simp [push, popd, stk]⟩, rfl, rfl⟩
    · obtain ⟨i1, i2, i3⟩ := ih M (by omega) hM (List.pairwise_append.mp hp).1
      have hMp : ∀ q, q ∈ M → LtP q p := fun q hq => (List.pairwise_append.mp hp).2.2 q hq p (by simp)
      have hs0 : stk M ≠ [] := fun z => by
        rw [z] at i2
        have := List.getLast?_eq_none_iff.mp i2.symm
        exact hM this
      have sM := (List.pairwise_append.mp hp).1
      obtain ⟨c, hc⟩ : ∃ c, M.head? = some c := by
        cases M with
        | nil => exact absurd rfl hM
        | cons x t => exact ⟨x, rfl⟩
      have low := srtd_head sM hc
      have key := push_ch (S := (· ∈ M)) hMp (stk M) hs0 i1 (fun b r eb q hq hb => ?_) (fun b eb q hq => ?_) (fun q hq => ?_)
      · obtain ⟨k1, k2, k3⟩ := key
        refine ⟨?_, by simp [push], ?_⟩
        · refine k1.to (fun q hq => ?_) (fun q hq => ?_)
          · have hq : q ∈ M ++ [p] := hq
            rcases List.mem_append.mp hq with h | h
            · exact .inl h
            · exact .inr (List.mem_singleton.mp h)
          · rcases k1.mem q hq with h | h
            · exact List.mem_append_left _ h
            · exact List.mem_append_right _ (by rw [h]; simp)
        · unfold push
          obtain ⟨x, t, ext⟩ : ∃ x t, popd (stk M) p = x :: t := by
            cases h : popd (stk M) p with
            | nil => exact absurd h k2
            | cons x t => exact ⟨x, t, rfl⟩
          rw [ext, List.getLast?_cons_cons, ← ext, k3, i3, List.head?_append, hc]; rfl
      · rw [eb, List.head?_cons] at i2
        rcases srtd_last sM i2.symm q hq with rfl | h
        · rw [span_self1]; exact Int.le_refl _
        · rcases hb with rfl | hb
          · exact absurd h (ltp_irr q)
          · exact absurd (ltp_tr h hb) (ltp_irr q)
      · rw [eb, hc] at i3
        have : b = c := by simpa using i3
        rw [this]; exact low q hq
      · rw [hc] at i3
        exact ⟨c, List.mem_of_getLast? i3, low q hq⟩
/-- two chains cannot part -/
theorem part_no {S : Pt → Prop} {z b b' : Pt} {r : List Pt} (h : RCh S (z :: b :: r)) (hS : S b') (hz : LtP b' z) (lt : LtP b' b) (h0 : span b' z b ≥ 0) (hr : r ≠ []) : False := by
  match r, hr with
  | c :: r, _ =>
    have hs := List.pairwise_cons.mp h.so
    have bz : LtP b z := hs.1 b (by simp)
    have h1 := h.lf.1 b' hS
    have t := h.tr.1
    have l2 := h.lf.2.1 b' hS
    have e : cr (sb z b) (sb b b') = 0 := by
      have e1 : span b z b' = - cr (sb z b) (sb b b') := by unfold span cr sb; grind
      have e2 : span b' z b = cr (sb z b) (sb b b') := by unfold span cr sb; grind
      omega
    have f : 0 < cr (sb z b) (sb c b) := by
      have : cr (sb z b) (sb c b) = span c b z := by unfold span cr sb; grind
      omega
    have := par_pos (lp_of bz) (lp_of lt) e f
    have id : span c b b' = - cr (sb b b') (sb c b) := by unfold span cr sb; grind
    omega
theorem rch_uniq {S : Pt → Prop} : ∀ (z : Pt) (r r' : List Pt), RCh S (z :: r) → RCh S (z :: r') → (z :: r).getLast? = (z :: r').getLast? → r = r'
  | z, [], [], _, _, _ => rfl
  | z, [], b' :: r', h, h', e => by
    rw [List.getLast?_singleton, List.getLast?_cons_cons] at e
    have := (List.pairwise_cons.mp h'.so).1 z (List.mem_of_getLast? e.symm)
    exact absurd this (ltp_irr z)
  | z, b :: r, [], h, h', e => by
    rw [List.getLast?_singleton, List.getLast?_cons_cons] at e
    have := (List.pairwise_cons.mp h.so).1 z (List.mem_of_getLast? e)
    exact absurd this (ltp_irr z)
  | z, b :: r, b' :: r', h, h', e => by
    rw [List.getLast?_cons_cons, List.getLast?_cons_cons] at e
    have hb := h.mem b (by simp)
    have hb' := h'.mem b' (by simp)
    have bz := (List.pairwise_cons.mp h.so).1 b (by simp)
    have bz' := (List.pairwise_cons.mp h'.so).1 b' (by simp)
    have eb : b = b' := by
      by_cases hne : b = b'
      · exact hne
      · obtain ⟨y, hy⟩ : ∃ y, (b :: r).getLast? = some y := by
          cases hh : (b :: r).getLast? with
          | none => exact absurd (List.getLast?_eq_none_iff.mp hh) (by simp)
          | some y => exact ⟨y, rfl⟩
        have y1 := last_le h.tail.so hy
        have y2 := last_le h'.tail.so (e.symm.trans hy)
        rcases ltp_tot hne with lt | lt
        · refine (part_no h' hb bz lt (h.lf.1 b' hb') fun hr => ?_).elim
          subst hr
          have : b' = y := by rw [List.getLast?_singleton] at e; rw [hy] at e; exact (Option.some.inj e).symm
          subst this
          rcases y1 with rfl | y1
          · exact ltp_irr _ lt
          · exact ltp_irr _ (ltp_tr lt y1)
        · refine (part_no h hb' bz' lt (h'.lf.1 b hb) fun hr => ?_).elim
          subst hr
          have : b = y := by rw [List.getLast?_singleton] at hy; exact Option.some.inj hy
          subst this
          rcases y2 with rfl | y2
          · exact ltp_irr _ lt
          · exact ltp_irr _ (ltp_tr lt y2)
    subst eb
    rw [rch_uniq b r r' h.tail h'.tail e]
end Hull
/-! the corners: both chains -/
namespace Hull
open DL PySem PySem.Spec PyProof.Rows L2
def ng (p : Pt) : Pt := (-p.1, -p.2)
theorem ng_ng (p : Pt) : ng (ng p) = p := by unfold ng; simp
theorem ng_inj {p q : Pt} (h : ng p = ng q) : p = q := by rw [← ng_ng p, h, ng_ng]
theorem span_ng (a b c : Pt) : span (ng a) (ng b) (ng c) = span a b c := by unfold span ng; grind
theorem ltp_ng {p q : Pt} : LtP (ng p) (ng q) ↔ LtP q p := by unfold LtP ng; dsimp only; omega
theorem popd_ng (p : Pt) : ∀ s : List Pt, popd (s.map ng) (ng p) = (popd s p).map ng
  | [] => rfl
  | [_] => rfl
  | b :: a :: r => by
    have ih := popd_ng p (a :: r)
    show popd (ng b :: ng a :: r.map ng) (ng p) = (popd (b :: a :: r) p).map ng
    unfold popd
    rw [span_ng]
    split
    · exact ih
    · rfl
theorem fold_ng : ∀ (l s : List Pt), (l.map ng).foldl push (s.map ng) = (l.foldl push s).map ng
  | [], s => rfl
  | p :: l, s => by
    have : push (s.map ng) (ng p) = (push s p).map ng := by unfold push; rw [popd_ng]; rfl
    rw [List.map_cons, List.foldl_cons, List.foldl_cons, this, fold_ng l]
theorem stk_ng (l : List Pt) : stk (l.map ng) = (stk l).map ng := fold_ng l []
theorem map_ng_ng (l : List Pt) : (l.map ng).map ng = l := by
  rw [List.map_map]
  have : ng ∘ ng = id := funext ng_ng
  rw [this, List.map_id]
/-- the sorted list seen from the other side -/
def rv (L : List Pt) : List Pt := L.reverse.map ng
theorem mem_rv {L : List Pt} {p : Pt} : p ∈ rv L ↔ ng p ∈ L := by
  unfold rv
  rw [List.mem_map]
  constructor
  · rintro ⟨q, hq, rfl⟩
    rw [ng_ng]; exact List.mem_reverse.mp hq
  · intro h
    exact ⟨ng p, List.mem_reverse.mpr h, ng_ng p⟩
theorem pw_rv {L : List Pt} (h : L.Pairwise LtP) : (rv L).Pairwise LtP := by
  unfold rv
  rw [List.pairwise_map, List.pairwise_reverse]
  exact h.imp fun h => ltp_ng.mpr h
theorem rv_ne {L : List Pt} (h : L ≠ []) : rv L ≠ [] := by unfold rv; simpa using h
theorem rv_len (L : List Pt) : (rv L).length = L.length := by unfold rv; simp
theorem rv_last (L : List Pt) : (rv L).getLast? = L.head?.map ng := by unfold rv; simp
theorem rv_head (L : List Pt) : (rv L).head? = L.getLast?.map ng := by unfold rv; simp
/-- the corners by both chains -/
theorem hull_two (ps : List Pt) (h : (srt ps).length ≠ 1) : hull ps = (stk (srt ps)).tail.reverse ++ ((stk (rv (srt ps))).tail.map ng).reverse := by
  unfold hull half
  rw [if_neg h]
  have e : stk (srt ps).reverse = (stk (rv (srt ps))).map ng := by
    unfold rv; rw [stk_ng, map_ng_ng]
  rw [e, List.dropLast_reverse, List.dropLast_reverse, List.map_tail]
structure Two (L : List Pt) (a z : Pt) (r r' : List Pt) : Prop where
  so : L.Pairwise LtP
  az : LtP a z
  first : ∀ q ∈ L, q = a ∨ LtP a q
  last : ∀ q ∈ L, q = z ∨ LtP q z
  ma : a ∈ L
  mz : z ∈ L
  e : stk L = z :: r
  e' : stk (rv L) = ng a :: r'
  low : RCh (· ∈ L) (z :: r)
  upp : RCh (· ∈ rv L) (ng a :: r')
  bot : (z :: r).getLast? = some a
  bot' : (ng a :: r').getLast? = some (ng z)
theorem two_of {L : List Pt} (hp : L.Pairwise LtP) (h2 : 2 ≤ L.length) : ∃ a z r r', Two L a z r r' := by
  match L, h2 with
  | a :: b :: t, _ =>
    obtain ⟨z, hz⟩ : ∃ z, (a :: b :: t).getLast? = some z := by
      cases hh : (a :: b :: t).getLast? with
      | none => exact absurd (List.getLast?_eq_none_iff.mp hh) (by simp)
      | some y => exact ⟨y, rfl⟩
    obtain ⟨k1, k2, k3⟩ := stk_ch _ (a :: b :: t) rfl (by simp) hp
    obtain ⟨m1, m2, m3⟩ := stk_ch _ (rv (a :: b :: t)) rfl (rv_ne (by simp)) (pw_rv hp)
    rw [hz] at k2
    rw [rv_last] at m2
    rw [rv_head, hz] at m3
    generalize hs : stk (a :: b :: t) = s at *
    generalize hs' : stk (rv (a :: b :: t)) = s' at *
    have mz := List.mem_of_getLast? hz
    have az : LtP a z := by
      rw [List.getLast?_cons_cons] at hz
      exact (List.pairwise_cons.mp hp).1 z (List.mem_of_getLast? hz)
    match s, s', k2, m2 with
    | x :: r, y :: r', k2, m2 =>
      have ex : x = z := by simpa using k2
      have ey : y = ng a := by simpa using m2
      subst ex ey
      exact ⟨a, x, r, r', hp, az, srtd_head hp rfl, srtd_last hp hz, by simp, mz, hs, hs', k1, m1, k3, m3⟩
theorem Two.ne {L : List Pt} {a z : Pt} {r r' : List Pt} (h : Two L a z r r') : L.length ≠ 1 := fun e => by
  have h1 := h.ma
  have h2 := h.mz
  match L, e with
  | [x], _ =>
    rw [List.mem_singleton] at h1 h2
    have := h.az
    rw [h1, h2] at this
    exact ltp_irr x this
theorem mem_hull {ps : List Pt} {a z : Pt} {r r' : List Pt} (h : Two (srt ps) a z r r') (x : Pt) : x ∈ hull ps ↔ x ∈ z :: r ∨ ng x ∈ ng a :: r' := by
  rw [hull_two ps h.ne, h.e, h.e', List.mem_append, List.mem_reverse, List.mem_reverse, List.mem_map, List.tail_cons, List.tail_cons]
  have za : ng z ∈ r' := by
    have := List.mem_of_getLast? h.bot'
    rcases List.mem_cons.mp this with e | e
    · have e := ng_inj e
      have := h.az
      rw [e] at this
      exact absurd this (ltp_irr a)
    · exact e
  have ar : a ∈ r := by
    have := List.mem_of_getLast? h.bot
    rcases List.mem_cons.mp this with e | e
    · have := h.az
      rw [e] at this
      exact absurd this (ltp_irr z)
    · exact e
  constructor
  · rintro (hx | ⟨y, hy, rfl⟩)
    · exact .inl (List.mem_cons_of_mem _ hx)
    · exact .inr (by rw [ng_ng]; exact List.mem_cons_of_mem _ hy)
  · rintro (hx | hx)
    · rcases List.mem_cons.mp hx with rfl | hx
      · exact .inr ⟨ng x, za, ng_ng x⟩
      · exact .inl hx
    · rcases List.mem_cons.mp hx with e | hx
      · rw [ng_inj e]; exact .inl ar
      · exact .inr ⟨ng x, hx, ng_ng x⟩
theorem hull_mem {ps : List Pt} {x : Pt} (h : x ∈ hull ps) : x ∈ ps := (hull_all (P := (· ∈ ps)) fun _ h => h).1 x h
theorem hull_one {p : Pt} {ps : List Pt} (h : srt ps = [p]) : hull ps = [p] := by unfold hull; rw [h]; rfl
/-- points between the corners and all have the same corners -/
theorem hull_between {ps qs : List Pt} (h1 : ∀ p ∈ qs, p ∈ ps) (h2 : ∀ p ∈ hull ps, p ∈ qs) : hull qs = hull ps := by
  have sub : ∀ p ∈ srt qs, p ∈ srt ps := fun p hp => (mem_srt ps p).mpr (h1 p ((mem_srt qs p).mp hp))
  rcases Nat.lt_or_ge (srt ps).length 2 with hl | hl
  · match hs : srt ps, hl with
    | [], _ =>
      have : srt qs = [] := List.eq_nil_iff_forall_not_mem.mpr fun p hp => by have := sub p hp; rw [hs] at this; exact absurd this (by simp)
      unfold hull; rw [hs, this]
    | [p], _ =>
      have hq : p ∈ qs := h2 p (by rw [hull_one hs]; simp)
      have : srt qs = [p] := by
        refine (srt_uniq (L := [p]) (by simp) fun x => ?_).symm
        constructor
        · intro hx; rw [List.mem_singleton.mp hx]; exact hq
        · intro hx
          have := sub x ((mem_srt qs x).mpr hx)
          rw [hs] at this; exact this
      rw [hull_one hs, hull_one this]
  · obtain ⟨a, z, r, r', T⟩ := two_of (pw_srt ps) hl
    have ha : a ∈ srt qs := (mem_srt qs a).mpr (h2 a ((mem_hull T a).mpr (.inl (List.mem_of_getLast? T.bot))))
    have hz : z ∈ srt qs := (mem_srt qs z).mpr (h2 z ((mem_hull T z).mpr (.inl (by simp))))
    have hl' : 2 ≤ (srt qs).length := by
      match hh : srt qs, ha, hz with
      | [x], ha, hz =>
        rw [List.mem_singleton] at ha hz
        have := T.az
        rw [ha, hz] at this
        exact absurd this (ltp_irr x)
      | _ :: _ :: _, _, _ => simp
    obtain ⟨a2, z2, r2, r2', T2⟩ := two_of (pw_srt qs) hl'
    have ea : a2 = a := by
      rcases T2.first a ha with e | e
      · exact e.symm
      · rcases T.first a2 (sub a2 T2.ma) with e' | e'
        · exact e'
        · exact absurd (ltp_tr e e') (ltp_irr _)
    have ez : z2 = z := by
      rcases T2.last z hz with e | e
      · exact e.symm
      · rcases T.last z2 (sub z2 T2.mz) with e' | e'
        · exact e'
        · exact absurd (ltp_tr e e') (ltp_irr _)
    subst ea ez
    have er : r2 = r := rch_uniq (S := (· ∈ srt qs)) z2 r2 r T2.low (T.low.to sub fun p hp => (mem_srt qs p).mpr (h2 p ((mem_hull T p).mpr (.inl hp)))) (T2.bot.trans T.bot.symm)
    have er' : r2' = r' := rch_uniq (S := (· ∈ rv (srt qs))) (ng a2) r2' r' T2.upp (T.upp.to (fun p hp => mem_rv.mpr (sub _ (mem_rv.mp hp))) fun p hp => mem_rv.mpr ((mem_srt qs _).mpr (h2 _ ((mem_hull T _).mpr (.inr (by rw [ng_ng]; exact hp)))))) (T2.bot'.trans T.bot'.symm)
    rw [hull_two ps T.ne, hull_two qs T2.ne, T.e, T.e', T2.e, T2.e', er, er']
theorem hull_hull (ps : List Pt) : hull (hull ps) = hull ps := hull_between (fun _ h => hull_mem h) fun _ h => h
/-- an inner corner of a chain -/
theorem inner {S : Pt → Prop} : ∀ (t : Pt) (r : List Pt) (u : Pt), RCh S (t :: r) → u ∈ r → (t :: r).getLast? ≠ some u → ∃ t' s r', RCh S (t' :: u :: s :: r')
  | t, [], u, _, h, _ => absurd h (by simp)
  | t, v :: r, u, h, hu, hl => by
    rcases List.mem_cons.mp hu with rfl | hu
    · match r, hl with
      | [], hl => exact absurd (by simp) hl
      | s :: r, _ => exact ⟨t, s, r, h⟩
    · rw [List.getLast?_cons_cons] at hl
      exact inner v r u h.tail hu hl
theorem no_both {L : List Pt} {a z : Pt} {r r' : List Pt} (T : Two L a z r r') (u : Pt) (h1 : u ∈ r) (h2 : ng u ∈ r') : False := by
  have ua : u ≠ a := fun e => by
    subst e
    exact ltp_irr _ ((List.pairwise_cons.mp T.upp.so).1 _ h2)
  have uz : u ≠ z := fun e => by
    subst e
    exact ltp_irr _ ((List.pairwise_cons.mp T.low.so).1 _ h1)
  obtain ⟨t, s, l, R⟩ := inner z r u T.low h1 (by rw [T.bot]; exact fun e => ua (Option.some.inj e).symm)
  obtain ⟨t', s', l', R'⟩ := inner (ng a) r' (ng u) T.upp h2 (by rw [T.bot']; exact fun e => uz (ng_inj (Option.some.inj e)).symm)
  have su : LtP s u := (List.pairwise_cons.mp R.tail.so).1 s (by simp)
  have us' : LtP u (ng s') := by
    have := (List.pairwise_cons.mp R'.tail.so).1 s' (by simp)
    rw [← ng_ng s'] at this
    exact ltp_ng.mp this
  have mS' : ng s' ∈ L := mem_rv.mp (R'.mem s' (by simp))
  have ms := R.mem s (by simp)
  have mt := R.mem t (by simp)
  have f1 := R.tr.1
  have f2 := R.lf.2.1 (ng s') mS'
  have g : ∀ p ∈ L, 0 ≤ span (ng s') u p := fun p hp => by
    have := R'.lf.2.1 (ng p) (mem_rv.mpr (by rw [ng_ng]; exact hp))
    rw [← span_ng, ng_ng]; exact this
  have f3 := g s ms
  have f4 := g t mt
  have e0 : cr (sb u s) (sb (ng s') u) = 0 := by
    have e1 : span s u (ng s') = cr (sb u s) (sb (ng s') u) := span_cr2 _ _ _
    have e2 : span (ng s') u s = - cr (sb u s) (sb (ng s') u) := by unfold span cr sb; grind
    omega
  have e1 : 0 < cr (sb u s) (sb t u) := by rw [← span_cr2]; exact f1
  have := par_pos (lp_of su) (lp_of us') e0 e1
  have e2 : span (ng s') u t = - cr (sb (ng s') u) (sb t u) := by unfold span cr sb; grind
  omega
theorem so_nodup {s : List Pt} (h : s.Pairwise fun x y => LtP y x) : s.Nodup := h.imp fun hl e => by subst e; exact ltp_irr _ hl
theorem nodup_rev {l : List Pt} (h : l.Nodup) : l.reverse.Nodup := List.pairwise_reverse.mpr (List.Pairwise.imp (fun e => Ne.symm e) h)
theorem hull_nodup (ps : List Pt) : (hull ps).Nodup := by
  rcases Nat.lt_or_ge (srt ps).length 2 with hl | hl
  · match hs : srt ps, hl with
    | [], _ => unfold hull; rw [hs]; simp [half, stk]
    | [p], _ => rw [hull_one hs]; simp
  · obtain ⟨a, z, r, r', T⟩ := two_of (pw_srt ps) hl
    rw [hull_two ps T.ne, T.e, T.e', List.tail_cons, List.tail_cons]
    refine List.nodup_append.mpr ⟨nodup_rev (so_nodup T.low.tail.so), nodup_rev ?_, fun x hx y hy e => ?_⟩
    · refine List.Pairwise.map ng ?_ (so_nodup T.upp.tail.so)
      exact fun x y h e => h (ng_inj e)
    · subst e
      rw [List.mem_reverse] at hx hy
      obtain ⟨y, hy, e⟩ := List.mem_map.mp hy
      refine no_both T x hx ?_
      rw [← e, ng_ng]; exact hy
theorem nodup_len : ∀ {l m : List Pt}, l.Nodup → (∀ x ∈ l, x ∈ m) → l.length ≤ m.length
  | [], m, _, _ => Nat.zero_le _
  | x :: l, m, h, hs => by
    have hx := hs x (by simp)
    have h' := List.nodup_cons.mp h
    have := nodup_len (l := l) (m := m.erase x) h'.2 fun y hy => (List.mem_erase_of_ne (fun e => h'.1 (by rw [← e]; exact hy))).mpr (hs y (by simp [hy]))
    rw [List.length_erase_of_mem hx] at this
    have := List.length_pos_of_mem hx
    rw [List.length_cons]; omega
theorem hull_len (ps : List Pt) : (hull ps).length ≤ ps.length := nodup_len (hull_nodup ps) fun _ h => hull_mem h
theorem hull_ne {ps : List Pt} (h : ps ≠ []) : hull ps ≠ [] := by
  match ps, h with
  | p :: t, _ =>
    rcases Nat.lt_or_ge (srt (p :: t)).length 2 with hl | hl
    · match hs : srt (p :: t), hl with
      | [], _ => have := (mem_srt (p :: t) p).mpr (by simp); rw [hs] at this; exact absurd this (by simp)
      | [q], _ => rw [hull_one hs]; simp
    · obtain ⟨a, z, r, r', T⟩ := two_of (pw_srt (p :: t)) hl
      have := (mem_hull T z).mpr (.inl (by simp))
      exact List.ne_nil_of_mem this
end Hull
/-! a corner is a point at which some direction is least, alone -/
namespace Hull
open DL PySem PySem.Spec PyProof.Rows L2
def dt (g w : Pt) : Int := g.1 * w.1 + g.2 * w.2
def Ext (X : List Pt) (p : Pt) : Prop := p ∈ X ∧ ∃ g : Pt, ∀ q ∈ X, q ≠ p → 0 < dt g (sb q p)
/-- slopes that rise -/
theorem cr_lt {d e f : Pt} (hd : LP d) (he : LP e) (hf : LP f) (h1 : 0 < cr d e) (h2 : 0 < cr e f) : 0 < cr d f := by
  have id : e.1 * cr d f = d.1 * cr e f + f.1 * cr d e := by unfold cr; grind
  have hd0 : 0 ≤ d.1 := by unfold LP at hd; omega
  have hf0 : 0 ≤ f.1 := by unfold LP at hf; omega
  rcases he with he | ⟨he, he2⟩
  · have : 0 < e.1 * cr d f := by
      rw [id]
      have a1 := Int.mul_nonneg hd0 (Int.le_of_lt h2)
      have a2 := Int.mul_nonneg hf0 (Int.le_of_lt h1)
      by_cases z : d.1 = 0
      · by_cases z2 : f.1 = 0
        · exfalso
          unfold cr at h1
          rw [z, Int.zero_mul, Int.zero_sub] at h1
          have hd2 : 0 < d.2 := by unfold LP at hd; omega
          have := Int.mul_pos hd2 he
          omega
        · have := Int.mul_pos (show 0 < f.1 by omega) h1
          omega
      · have := Int.mul_pos (show 0 < d.1 by omega) h2
        omega
    exact Int.pos_of_mul_pos_right this he
  · exfalso
    unfold cr at h2
    rw [he, Int.zero_mul, Int.zero_sub] at h2
    have := Int.mul_nonneg (Int.le_of_lt he2) hf0
    omega
/-- a chain's edge over a point -/
theorem cover {S : Pt → Prop} : ∀ (z : Pt) (r : List Pt) (a p : Pt), RCh S (z :: r) → (z :: r).getLast? = some a → (p = a ∨ LtP a p) → (p = z ∨ LtP p z) → p ∉ z :: r → ∃ u v, LtP u p ∧ LtP p v ∧ (∀ q, S q → 0 ≤ span u v q) ∧ S u ∧ S v
  | z, [], a, p, h, e, h1, h2, hn => by
    rw [List.getLast?_singleton] at e
    have : z = a := Option.some.inj e
    subst this
    rcases h1 with rfl | h1
    · exact absurd (by simp) hn
    · rcases h2 with rfl | h2
      · exact absurd (by simp) hn
      · exact absurd (ltp_tr h1 h2) (ltp_irr _)
  | z, b :: r, a, p, h, e, h1, h2, hn => by
    have pz : LtP p z := by
      rcases h2 with rfl | h2
      · exact absurd (by simp) hn
      · exact h2
    have pb : p ≠ b := fun e => hn (by rw [e]; simp)
    rcases ltp_tot pb with lt | lt
    · rw [List.getLast?_cons_cons] at e
      exact cover b r a p h.tail e h1 (.inr lt) fun hm => hn (List.mem_cons_of_mem _ hm)
    · exact ⟨b, z, lt, pz, h.lf.1, h.mem b (by simp), h.mem z (by simp)⟩
theorem lp_cases {g : Pt} (h : g ≠ (0, 0)) : LP g ∨ LP (ng g) := by
  unfold LP ng
  dsimp only
  by_cases z : g.1 = 0
  · have : g.2 ≠ 0 := fun z2 => h (Prod.ext z z2)
    omega
  · omega
/-- a point strictly least in a direction cannot lie over an edge that has it at its left -/
theorem over_no {u v p g : Pt} (up : LtP u p) (pv : LtP p v) (h : 0 ≤ span u v p) (hg : LP (g.2, -g.1)) (hu : 0 < dt g (sb u p)) (hv : 0 < dt g (sb v p)) : False := by
  have e1 : cr (sb p u) (g.2, -g.1) = dt g (sb u p) := by unfold cr sb dt; grind
  have e2 : cr (g.2, -g.1) (sb v p) = dt g (sb v p) := by unfold cr sb dt; grind
  have := cr_lt (d := sb p u) (e := (g.2, -g.1)) (f := sb v p) (lp_of up) hg (lp_of pv) (by omega) (by omega)
  have e3 : cr (sb p u) (sb v p) = - span u v p := by unfold cr sb span; grind
  omega
theorem ext_hull {X : List Pt} {p : Pt} (h : Ext X p) : p ∈ hull X := by
  obtain ⟨hp, g, hg⟩ := h
  have hpL : p ∈ srt X := (mem_srt X p).mpr hp
  rcases Nat.lt_or_ge (srt X).length 2 with hl | hl
  · match hs : srt X, hl with
    | [], _ => rw [hs] at hpL; exact absurd hpL (by simp)
    | [q], _ => rw [hs] at hpL; rw [hull_one hs]; exact hpL
  · obtain ⟨a, z, r, r', T⟩ := two_of (pw_srt X) hl
    rw [mem_hull T]
    by_cases h1 : p ∈ z :: r
    · exact .inl h1
    · by_cases h2 : ng p ∈ ng a :: r'
      · exact .inr h2
      · exfalso
        obtain ⟨u, v, up, pv, hs, mu, mv⟩ := cover z r a p T.low T.bot (T.first p hpL) (T.last p hpL) h1
        have hu := hg u ((mem_srt X u).mp mu) fun e => by subst e; exact ltp_irr _ up
        have hv := hg v ((mem_srt X v).mp mv) fun e => by subst e; exact ltp_irr _ pv
        have g0 : (g.2, -g.1) ≠ ((0, 0) : Pt) := fun e => by
          have e1 : g.2 = 0 := congrArg Prod.fst e
          have e2 : -g.1 = 0 := congrArg Prod.snd e
          unfold dt at hu
          rw [e1, show g.1 = 0 by omega] at hu
          omega
        rcases lp_cases g0 with lg | lg
        · exact over_no up pv (hs p hpL) lg hu hv
        · have first' : ng p = ng z ∨ LtP (ng z) (ng p) := by
            rcases T.last p hpL with e | e
            · exact .inl (by rw [e])
            · exact .inr (ltp_ng.mpr e)
          have last' : ng p = ng a ∨ LtP (ng p) (ng a) := by
            rcases T.first p hpL with e | e
            · exact .inl (by rw [e])
            · exact .inr (ltp_ng.mpr e)
          obtain ⟨u', v', up', pv', hs', mu', mv'⟩ := cover (ng a) r' (ng z) (ng p) T.upp T.bot' first' last' h2
          have mu2 := mem_rv.mp mu'
          have mv2 := mem_rv.mp mv'
          have hu' := hg (ng u') ((mem_srt X _).mp mu2) fun e => by rw [← e, ng_ng] at up'; exact ltp_irr _ up'
          have hv' := hg (ng v') ((mem_srt X _).mp mv2) fun e => by rw [← e, ng_ng] at pv'; exact ltp_irr _ pv'
          refine over_no (g := ng g) up' pv' (hs' (ng p) (mem_rv.mpr (by rw [ng_ng]; exact hpL))) ?_ ?_ ?_
          · exact lg
          · have : dt (ng g) (sb u' (ng p)) = dt g (sb (ng u') p) := by unfold dt ng sb; grind
            rw [this]; exact hu'
          · have : dt (ng g) (sb v' (ng p)) = dt g (sb (ng v') p) := by unfold dt ng sb; grind
            rw [this]; exact hv'
/-- a direction in which the order's least is least -/
theorem ext_first : ∀ (X : List Pt) (a : Pt), (∀ q ∈ X, q = a ∨ LtP a q) → ∃ N : Int, 0 < N ∧ ∀ q ∈ X, q ≠ a → 0 < dt (N, 1) (sb q a)
  | [], a, _ => ⟨1, by decide, fun q h => absurd h (by simp)⟩
  | x :: X, a, h => by
    obtain ⟨N, N0, hN⟩ := ext_first X a fun q hq => h q (by simp [hq])
    refine ⟨N + (x.2 - a.2).natAbs + 1, by omega, fun q hq hne => ?_⟩
    have key : ∀ q : Pt, LtP a q → 0 < dt (N, 1) (sb q a) ∨ q = x → 0 < dt (N + ((x.2 - a.2).natAbs : Int) + 1, 1) (sb q a) := by
      intro q lt hq
      have e : dt (N + ((x.2 - a.2).natAbs : Int) + 1, 1) (sb q a) = dt (N, 1) (sb q a) + (((x.2 - a.2).natAbs : Int) + 1) * (q.1 - a.1) := by unfold dt sb; grind
      have e2 : dt (N, 1) (sb q a) = N * (q.1 - a.1) + (q.2 - a.2) := by unfold dt sb; grind
      rcases lt with lt | ⟨lt, lt2⟩
      · have p1 : 0 < (((x.2 - a.2).natAbs : Int) + 1) * (q.1 - a.1) := Int.mul_pos (by omega) (by omega)
        rcases hq with hq | rfl
        · omega
        · have p2 : 0 < N * (q.1 - a.1) := Int.mul_pos N0 (by omega)
          have p3 : (((q.2 - a.2).natAbs : Int) + 1) * 1 ≤ (((q.2 - a.2).natAbs : Int) + 1) * (q.1 - a.1) := Int.mul_le_mul_of_nonneg_left (by omega) (by omega)
          omega
      · have z : q.1 - a.1 = 0 := by omega
        rw [e, e2, z]; omega
    rcases h q hq with e | lt
    · exact absurd e hne
    · rcases List.mem_cons.mp hq with rfl | hq
      · exact key q lt (.inr rfl)
      · exact key q lt (.inl (hN q hq hne))
/-- a direction for an inner corner -/
theorem ext_inner {S : Pt → Prop} {t u s : Pt} {r : List Pt} (h : RCh S (t :: u :: s :: r)) : ∃ g : Pt, ∀ q, S q → q ≠ u → 0 < dt g (sb q u) := by
  refine ⟨(-(u.2 - s.2) - (t.2 - u.2), (u.1 - s.1) + (t.1 - u.1)), fun q hq hne => ?_⟩
  have h1 := h.lf.1 q hq
  have h2 := h.lf.2.1 q hq
  have h3 := h.tr.1
  have e : dt (-(u.2 - s.2) - (t.2 - u.2), (u.1 - s.1) + (t.1 - u.1)) (sb q u) = span s u q + span u t q := by unfold dt sb span; grind
  rw [e]
  by_cases z : span s u q + span u t q = 0
  · exfalso
    have z1 : span s u q = 0 := by omega
    have z2 : span u t q = 0 := by omega
    apply hne
    have i1 : span s u t * (q.1 - u.1) = (t.1 - u.1) * span s u q - (u.1 - s.1) * span u t q := by unfold span; grind
    have i2 : span s u t * (q.2 - u.2) = (t.2 - u.2) * span s u q - (u.2 - s.2) * span u t q := by unfold span; grind
    rw [z1, z2, Int.mul_zero, Int.mul_zero] at i1 i2
    have j1 : q.1 - u.1 = 0 := (Int.mul_eq_zero.mp (by omega : span s u t * (q.1 - u.1) = 0)).resolve_left (by omega)
    have j2 : q.2 - u.2 = 0 := (Int.mul_eq_zero.mp (by omega : span s u t * (q.2 - u.2) = 0)).resolve_left (by omega)
    exact Prod.ext (by omega) (by omega)
  · omega
theorem hull_ext {X : List Pt} {p : Pt} (h : p ∈ hull X) : Ext X p := by
  refine ⟨hull_mem h, ?_⟩
  rcases Nat.lt_or_ge (srt X).length 2 with hl | hl
  · match hs : srt X, hl with
    | [], _ => have := (mem_srt X p).mpr (hull_mem h); rw [hs] at this; exact absurd this (by simp)
    | [q], _ =>
      refine ⟨(0, 0), fun x hx hne => ?_⟩
      have h1 := (mem_srt X p).mpr (hull_mem h)
      have h2 := (mem_srt X x).mpr hx
      rw [hs, List.mem_singleton] at h1 h2
      exact absurd (h2.trans h1.symm) hne
  · obtain ⟨a, z, r, r', T⟩ := two_of (pw_srt X) hl
    have key : ∀ {g : Pt}, (∀ q ∈ srt X, q ≠ p → 0 < dt g (sb q p)) → ∃ g : Pt, ∀ q ∈ X, q ≠ p → 0 < dt g (sb q p) := fun hg => ⟨_, fun q hq => hg q ((mem_srt X q).mpr hq)⟩
    have fromA : p = a → ∃ g : Pt, ∀ q ∈ X, q ≠ p → 0 < dt g (sb q p) := fun e => by
      subst e
      obtain ⟨N, _, hN⟩ := ext_first (srt X) p T.first
      exact key hN
    have fromZ : p = z → ∃ g : Pt, ∀ q ∈ X, q ≠ p → 0 < dt g (sb q p) := fun e => by
      subst e
      obtain ⟨N, _, hN⟩ := ext_first (rv (srt X)) (ng p) fun q hq => by
        rcases T.last (ng q) (mem_rv.mp hq) with e | e
        · exact .inl (by rw [← e, ng_ng])
        · rw [← ng_ng q]; exact .inr (ltp_ng.mpr e)
      refine key (g := ng (N, 1)) fun q hq hne => ?_
      have := hN (ng q) (mem_rv.mpr (by rw [ng_ng]; exact hq)) fun e => hne (ng_inj e)
      have e2 : dt (ng (N, 1)) (sb q p) = dt (N, 1) (sb (ng q) (ng p)) := by unfold dt ng sb; grind
      rw [e2]; exact this
    rcases (mem_hull T p).mp h with h1 | h1
    · rcases List.mem_cons.mp h1 with e | h1
      · exact fromZ e
      · by_cases ea : p = a
        · exact fromA ea
        · obtain ⟨t, s, l, R⟩ := inner z r p T.low h1 (by rw [T.bot]; exact fun e => ea (Option.some.inj e).symm)
          obtain ⟨g, hg⟩ := ext_inner R
          exact key hg
    · rcases List.mem_cons.mp h1 with e | h1
      · exact fromA (ng_inj e)
      · by_cases ez : p = z
        · exact fromZ ez
        · obtain ⟨t, s, l, R⟩ := inner (ng a) r' (ng p) T.upp h1 (by rw [T.bot']; exact fun e => ez (ng_inj (Option.some.inj e)).symm)
          obtain ⟨g, hg⟩ := ext_inner R
          refine key (g := ng g) fun q hq hne => ?_
          have := hg (ng q) (mem_rv.mpr (by rw [ng_ng]; exact hq)) fun e => hne (ng_inj e)
          have e2 : dt (ng g) (sb q p) = dt g (sb (ng q) (ng p)) := by unfold dt ng sb; grind
          rw [e2]; exact this
theorem hull_iff {X : List Pt} {p : Pt} : p ∈ hull X ↔ Ext X p := ⟨hull_ext, ext_hull⟩
/-! ### pictures -/
/-- of a map that can be undone, over the plane -/
structure Aff (φ : Pt → Pt) (a b c d : Int) : Prop where
  x : ∀ p q, (φ q).1 - (φ p).1 = a * (q.1 - p.1) + b * (q.2 - p.2)
  y : ∀ p q, (φ q).2 - (φ p).2 = c * (q.1 - p.1) + d * (q.2 - p.2)
theorem Aff.inj {φ : Pt → Pt} {a b c d : Int} (h : Aff φ a b c d) (h0 : a * d - b * c ≠ 0) {p q : Pt} (e : φ p = φ q) : p = q := by
  have e1 := h.x p q
  have e2 := h.y p q
  rw [e] at e1 e2
  have i1 : (a * d - b * c) * (q.1 - p.1) = d * (a * (q.1 - p.1) + b * (q.2 - p.2)) - b * (c * (q.1 - p.1) + d * (q.2 - p.2)) := by grind
  have i2 : (a * d - b * c) * (q.2 - p.2) = a * (c * (q.1 - p.1) + d * (q.2 - p.2)) - c * (a * (q.1 - p.1) + b * (q.2 - p.2)) := by grind
  rw [← e1, ← e2, Int.sub_self, Int.sub_self, Int.mul_zero, Int.mul_zero] at i1 i2
  have j1 := (Int.mul_eq_zero.mp (by omega : (a * d - b * c) * (q.1 - p.1) = 0)).resolve_left h0
  have j2 := (Int.mul_eq_zero.mp (by omega : (a * d - b * c) * (q.2 - p.2) = 0)).resolve_left h0
  exact Prod.ext (by omega) (by omega)
/-- the corners of a picture are the pictures of the corners -/
theorem hull_pic {φ : Pt → Pt} {a b c d : Int} (h : Aff φ a b c d) (h0 : a * d - b * c ≠ 0) {X : List Pt} {p : Pt} : φ p ∈ hull (X.map φ) ↔ p ∈ hull X := by
  rw [hull_iff, hull_iff]
  constructor
  · rintro ⟨hp, g, hg⟩
    obtain ⟨p', hp', e⟩ := List.mem_map.mp hp
    have := h.inj h0 e
    subst this
    refine ⟨hp', (g.1 * a + g.2 * c, g.1 * b + g.2 * d), fun q hq hne => ?_⟩
    have := hg (φ q) (List.mem_map_of_mem hq) fun e => hne (h.inj h0 e)
    have e1 := h.x p' q
    have e2 := h.y p' q
    unfold dt sb at this ⊢
    dsimp only at this ⊢
    rw [e1, e2] at this
    grind
  · rintro ⟨hp, g, hg⟩
    refine ⟨List.mem_map_of_mem hp, ((a * d - b * c) * (g.1 * d - g.2 * c), (a * d - b * c) * (g.2 * a - g.1 * b)), fun y hy hne => ?_⟩
    obtain ⟨q, hq, rfl⟩ := List.mem_map.mp hy
    have := hg q hq fun e => hne (by rw [e])
    have e1 := h.x p q
    have e2 := h.y p q
    have id : dt ((a * d - b * c) * (g.1 * d - g.2 * c), (a * d - b * c) * (g.2 * a - g.1 * b)) (sb (φ q) (φ p)) = ((a * d - b * c) * (a * d - b * c)) * dt g (sb q p) := by
      unfold dt sb; dsimp only; rw [e1, e2]; grind
    rw [id]
    refine Int.mul_pos ?_ this
    have : 0 ≤ (a * d - b * c) * (a * d - b * c) := by
      rcases Int.le_total 0 (a * d - b * c) with z | z
      · exact Int.mul_nonneg z z
      · exact Int.mul_nonneg_of_nonpos_of_nonpos z z
    have n0 : (a * d - b * c) * (a * d - b * c) ≠ 0 := fun z => by rcases Int.mul_eq_zero.mp z with z | z <;> exact h0 z
    omega
theorem hull_map_hull {φ : Pt → Pt} {a b c d : Int} (h : Aff φ a b c d) (h0 : a * d - b * c ≠ 0) (X : List Pt) : hull ((hull X).map φ) = hull (X.map φ) := by
  refine hull_between (fun p hp => ?_) fun y hy => ?_
  · obtain ⟨q, hq, rfl⟩ := List.mem_map.mp hp
    exact List.mem_map_of_mem (hull_mem hq)
  · obtain ⟨q, hq, rfl⟩ := List.mem_map.mp (hull_mem hy)
    exact List.mem_map_of_mem ((hull_pic h h0).mp hy)
end Hull
/-! once round the corners -/
namespace Hull
open DL PySem PySem.Spec PyProof.Rows L2
def Adj (E : Pt → Pt → Prop) : List Pt → Prop
  | u :: v :: r => E u v ∧ Adj E (v :: r)
  | _ => True
theorem Adj.join {E : Pt → Pt → Prop} {z : Pt} {m : List Pt} : ∀ {l : List Pt}, Adj E (l ++ [z]) → Adj E (z :: m) → Adj E (l ++ z :: m)
  | [], _, h => h
  | [x], h1, h2 => ⟨h1.1, h2⟩
  | x :: y :: l, h1, h2 => ⟨h1.1, Adj.join (l := y :: l) h1.2 h2⟩
theorem Adj.at {E : Pt → Pt → Prop} : ∀ {l : List Pt} {i : Nat} {u v : Pt}, Adj E l → l[i]? = some u → l[i + 1]? = some v → E u v
  | x :: y :: l, 0, u, v, h, h1, h2 => by
    cases h1; cases h2; exact h.1
  | x :: y :: l, i + 1, u, v, h, h1, h2 => Adj.at (l := y :: l) (i := i) h.2 h1 h2
  | [x], 0, u, v, h, h1, h2 => by simp at h2
  | [x], i + 1, u, v, h, h1, h2 => by simp at h1
  | [], i, u, v, h, h1, h2 => by simp at h1
theorem RLft.adj {S : Pt → Prop} : ∀ {s : List Pt}, RLft S s → Adj (fun u v => ∀ p, S p → 0 ≤ span u v p) s.reverse
  | [], _ => trivial
  | [x], _ => trivial
  | b :: a :: r, h => by
    have ih := RLft.adj (s := a :: r) h.2
    rw [List.reverse_cons] at ih
    rw [List.reverse_cons, List.reverse_cons, List.append_assoc]
    exact Adj.join ih ⟨h.1, trivial⟩
/-- the corners and the first one again -/
theorem hull_closed {X : List Pt} {a z : Pt} {r r' : List Pt} (T : Two (srt X) a z r r') : hull X ++ [a] = r.reverse ++ z :: (((ng a :: r').map ng).reverse.tail) := by
  rw [hull_two X T.ne, T.e, T.e', List.tail_cons, List.tail_cons, List.map_cons, ng_ng, List.reverse_cons]
  have hb := T.bot'
  obtain ⟨m, hm⟩ : ∃ m, (r'.map ng).reverse ++ [a] = z :: m := by
    have : ((r'.map ng).reverse ++ [a]).head? = some z := by
      have e : (r'.map ng).reverse ++ [a] = ((ng a :: r').map ng).reverse := by rw [List.map_cons, ng_ng, List.reverse_cons]
      rw [e, List.head?_reverse, List.getLast?_map, hb]
      show some (ng (ng z)) = some z
      rw [ng_ng]
    cases h : (r'.map ng).reverse ++ [a] with
    | nil => rw [h] at this; exact nomatch this
    | cons x t => rw [h] at this; cases this; exact ⟨t, rfl⟩
  rw [List.append_assoc, hm, List.tail_cons]
/-- all points lie at the left of each side -/
theorem hull_sides {X : List Pt} {a z : Pt} {r r' : List Pt} (T : Two (srt X) a z r r') : Adj (fun u v => ∀ p ∈ X, 0 ≤ span u v p) (hull X ++ [a]) := by
  rw [hull_closed T]
  have low := T.low.lf.adj
  rw [List.reverse_cons] at low
  have upp := T.upp.lf.adj
  have um : Adj (fun u v => ∀ p ∈ X, 0 ≤ span u v p) ((ng a :: r').map ng).reverse := by
    have : ∀ l : List Pt, Adj (fun u v => ∀ p, p ∈ rv (srt X) → 0 ≤ span u v p) l → Adj (fun u v => ∀ p ∈ X, 0 ≤ span u v p) (l.map ng) := by
      intro l
      induction l with
      | nil => exact fun _ => trivial
      | cons x l ih =>
        intro h
        cases l with
        | nil => trivial
        | cons y l =>
          refine ⟨fun p hp => ?_, ih h.2⟩
          have := h.1 (ng p) (mem_rv.mpr (by rw [ng_ng]; exact (mem_srt X p).mpr hp))
          rw [← span_ng, ng_ng] at this
          exact this
    have := this _ upp
    rw [List.map_reverse] at this
    exact this
  have lm : Adj (fun u v => ∀ p ∈ X, 0 ≤ span u v p) (r.reverse ++ [z]) := by
    have : ∀ l : List Pt, Adj (fun u v => ∀ p, p ∈ srt X → 0 ≤ span u v p) l → Adj (fun u v => ∀ p ∈ X, 0 ≤ span u v p) l := by
      intro l
      induction l with
      | nil => exact fun _ => trivial
      | cons x l ih =>
        intro h
        cases l with
        | nil => trivial
        | cons y l => exact ⟨fun p hp => h.1 p ((mem_srt X p).mpr hp), ih h.2⟩
    exact this _ low
  refine lm.join ?_
  have hd : ((ng a :: r').map ng).reverse.head? = some z := by
    rw [List.head?_reverse, List.getLast?_map, T.bot']
    show some (ng (ng z)) = some z
    rw [ng_ng]
  cases h : ((ng a :: r').map ng).reverse with
  | nil => rw [h] at hd; exact nomatch hd
  | cons x t => rw [h] at hd um; cases hd; exact um
/-- no three corners on a line -/
theorem no3_mid {X : List Pt} {s m t : Pt} (hm : m ∈ hull X) (hs : s ∈ X) (ht : t ∈ X) (sm : LtP s m) (mt : LtP m t) (h : span s m t = 0) : False := by
  obtain ⟨_, g, hg⟩ := hull_ext hm
  have h1 := hg s hs fun e => by subst e; exact ltp_irr _ sm
  have h2 := hg t ht fun e => by subst e; exact ltp_irr _ mt
  have e : cr (sb m s) (sb t m) = 0 := by rw [← span_cr2]; exact h
  have d1 : dt g (sb m s) = - dt g (sb s m) := by unfold dt sb; grind
  have p1 := lp_of sm
  have p2 := lp_of mt
  generalize sb m s = d at *
  generalize sb t m = f at *
  have q1 : dt g d < 0 := by omega
  rcases p1 with p1 | ⟨p1, p1'⟩
  · have id : d.1 * dt g f = f.1 * dt g d := by unfold cr at e; unfold dt; grind
    have l : 0 < d.1 * dt g f := Int.mul_pos p1 h2
    have f0 : 0 ≤ f.1 := by unfold LP at p2; omega
    have : f.1 * dt g d ≤ 0 := Int.mul_nonpos_of_nonneg_of_nonpos f0 (Int.le_of_lt q1)
    omega
  · have fx : f.1 = 0 := by
      unfold cr at e
      rw [p1, Int.zero_mul, Int.zero_sub] at e
      exact (Int.mul_eq_zero.mp (by omega : d.2 * f.1 = 0)).resolve_left (by omega)
    have id : d.2 * dt g f = f.2 * dt g d := by unfold dt; rw [fx, p1]; grind
    have l : 0 < d.2 * dt g f := Int.mul_pos p1' h2
    have f0 : 0 < f.2 := by unfold LP at p2; omega
    have : f.2 * dt g d ≤ 0 := Int.mul_nonpos_of_nonneg_of_nonpos (by omega) (Int.le_of_lt q1)
    omega
theorem no3 {X : List Pt} {u v w : Pt} (hu : u ∈ hull X) (hv : v ∈ hull X) (hw : w ∈ hull X) (h1 : u ≠ v) (h2 : v ≠ w) (h3 : u ≠ w) : span u v w ≠ 0 := fun h => by
  have mu := hull_mem hu
  have mv := hull_mem hv
  have mw := hull_mem hw
  have a1 : span u w v = 0 := by rw [span_swap2]; omega
  have a2 : span v u w = 0 := by rw [span_swap]; omega
  have a3 : span v w u = 0 := by rw [← span_rot]; exact h
  have a4 : span w u v = 0 := by rw [← span_rot, ← span_rot]; exact h
  have a5 : span w v u = 0 := by rw [span_rot, span_rot]; rw [span_swap2]; rw [span_rot] at a1; omega
  rcases ltp_tot h1 with x | x <;> rcases ltp_tot h2 with y | y <;> rcases ltp_tot h3 with z | z
  · exact no3_mid hv mu mw x y h
  · exact no3_mid hv mu mw x y h
  · exact no3_mid hw mu mv z y a1
  · exact no3_mid hu mw mv z x a4
  · exact no3_mid hu mv mw x z a2
  · exact no3_mid hw mv mu y z a3
  · exact no3_mid hv mw mu y x a5
  · exact no3_mid hv mw mu y x a5
/-! by numbers -/
theorem hull_first {X : List Pt} {a z : Pt} {r r' : List Pt} (T : Two (srt X) a z r r') : (hull X).head? = some a := by
  rw [hull_two X T.ne, T.e, List.tail_cons]
  have hb := T.bot
  match r, hb with
  | [], hb =>
    rw [List.getLast?_singleton] at hb
    have := T.az
    rw [Option.some.inj hb] at this
    exact absurd this (ltp_irr _)
  | x :: r, hb =>
    rw [List.getLast?_cons_cons] at hb
    rw [List.head?_append, List.head?_reverse, hb]; rfl
theorem hull_side {X : List Pt} (h0 : X ≠ []) {k : Nat} (hk : k < (hull X).length) : ∀ p ∈ X, 0 ≤ span ((hull X).getD k (0, 0)) ((hull X).getD ((k + 1) % (hull X).length) (0, 0)) p := by
  intro p hp
  rcases Nat.lt_or_ge (srt X).length 2 with hl | hl
  · match hs : srt X, hl with
    | [], _ => have := (mem_srt X p).mpr hp; rw [hs] at this; exact absurd this (by simp)
    | [q], _ =>
      have e := hull_one hs
      rw [e] at hk ⊢
      have hk : k = 0 := by simp at hk; exact hk
      subst hk
      have e1 : ((0 : Nat) + 1) % [q].length = 0 := by rw [List.length_singleton]
      rw [e1]
      show 0 ≤ span q q p
      rw [span_self3]; exact Int.le_refl _
  · obtain ⟨a, z, r, r', T⟩ := two_of (pw_srt X) hl
    have S := hull_sides T
    have hf := hull_first T
    have n0 : 0 < (hull X).length := by omega
    have e1 : (hull X ++ [a])[k]? = some ((hull X).getD k (0, 0)) := by
      rw [List.getElem?_append_left hk, List.getD_eq_getElem?_getD, List.getElem?_eq_getElem hk]; rfl
    have e2 : (hull X ++ [a])[k + 1]? = some ((hull X).getD ((k + 1) % (hull X).length) (0, 0)) := by
      by_cases hk2 : k + 1 < (hull X).length
      · rw [Nat.mod_eq_of_lt hk2, List.getElem?_append_left hk2, List.getD_eq_getElem?_getD, List.getElem?_eq_getElem hk2]; rfl
      · have : k + 1 = (hull X).length := by omega
        rw [this, Nat.mod_self, List.getElem?_append_right (Nat.le_refl _), Nat.sub_self, List.getD_eq_getElem?_getD, show (hull X)[0]? = some a by rw [← List.head?_eq_getElem?]; exact hf]; rfl
    exact S.at e1 e2 p hp
theorem getD_inj {l : List Pt} (h : l.Nodup) {i j : Nat} (hi : i < l.length) (hj : j < l.length) (e : l.getD i (0, 0) = l.getD j (0, 0)) : i = j := by
  rw [List.getD_eq_getElem?_getD, List.getD_eq_getElem?_getD, List.getElem?_eq_getElem hi, List.getElem?_eq_getElem hj] at e
  exact (List.getElem_inj h).mp e
theorem hull_turn {X : List Pt} (h0 : X ≠ []) (h3 : 3 ≤ (hull X).length) {k : Nat} (hk : k < (hull X).length) : 0 < span ((hull X).getD k (0, 0)) ((hull X).getD ((k + 1) % (hull X).length) (0, 0)) ((hull X).getD ((k + 2) % (hull X).length) (0, 0)) := by
  have n1 : (k + 1) % (hull X).length < (hull X).length := Nat.mod_lt _ (by omega)
  have n2 : (k + 2) % (hull X).length < (hull X).length := Nat.mod_lt _ (by omega)
  have m : ∀ i, i < (hull X).length → (hull X).getD i (0, 0) ∈ hull X := fun i hi => by
    rw [List.getD_eq_getElem?_getD, List.getElem?_eq_getElem hi]; exact List.getElem_mem hi
  have nd := hull_nodup X
  have s := hull_side h0 hk _ (hull_mem (m _ n2))
  have d1 : k ≠ (k + 1) % (hull X).length := by
    intro e
    by_cases z : k + 1 < (hull X).length
    · rw [Nat.mod_eq_of_lt z] at e; omega
    · have : k + 1 = (hull X).length := by omega
      rw [this, Nat.mod_self] at e; omega
  have d2 : (k + 1) % (hull X).length ≠ (k + 2) % (hull X).length := by
    intro e
    by_cases z : k + 2 < (hull X).length
    · rw [Nat.mod_eq_of_lt z, Nat.mod_eq_of_lt (by omega)] at e; omega
    · by_cases z2 : k + 2 = (hull X).length
      · rw [z2, Nat.mod_self, Nat.mod_eq_of_lt (by omega)] at e; omega
      · have e1 : k + 1 = (hull X).length := by omega
        have e2 : k + 2 = (hull X).length + 1 := by omega
        rw [e1, e2, Nat.mod_self, Nat.add_mod_left, Nat.mod_eq_of_lt (by omega)] at e; omega
  have d3 : k ≠ (k + 2) % (hull X).length := by
    intro e
    by_cases z : k + 2 < (hull X).length
    · rw [Nat.mod_eq_of_lt z] at e; omega
    · by_cases z2 : k + 2 = (hull X).length
      · rw [z2, Nat.mod_self] at e; omega
      · have e2 : k + 2 = (hull X).length + 1 := by omega
        rw [e2, Nat.add_mod_left, Nat.mod_eq_of_lt (by omega)] at e; omega
  have := no3 (m k hk) (m _ n1) (m _ n2) (fun e => d1 (getD_inj nd hk n1 e)) (fun e => d2 (getD_inj nd n1 n2 e)) (fun e => d3 (getD_inj nd hk n2 e))
  omega
end Hull
/-! the order of points -/
namespace Hull
open DL PySem PySem.Spec PyProof.Rows L2
theorem lex_cons (O : KeyOrd) (x y : O.α) (xs ys : List O.α) : PyProof.Rows.lexLt O (x :: xs) (y :: ys) = (O.blt x y || !O.blt y x && PyProof.Rows.lexLt O xs ys) := by
  conv => lhs; unfold PyProof.Rows.lexLt
theorem lex_int (a b : Int) (xs ys : List (Int ⊕ List Nat)) : PyProof.Rows.lexLt itemOrd (Sum.inl a :: xs) (Sum.inl b :: ys) = (decide (a < b) || !decide (b < a) && PyProof.Rows.lexLt itemOrd xs ys) := lex_cons itemOrd _ _ _ _
theorem ltD_pt (p q : Pt) : ltD (pt p) (pt q) = decide (p.1 < q.1 ∨ (p.1 = q.1 ∧ p.2 < q.2)) := by
  obtain ⟨a, b⟩ := p
  obtain ⟨c, d⟩ := q
  have e : ∀ a b : Int, W.keyToks (PyData.tuple [PyData.int a, PyData.int b]) = [Sum.inl 1, Sum.inl a, Sum.inl 1, Sum.inl b, Sum.inl 0] := fun a b => by simp only [W.keyToks, W.keyToksAll]; rfl
  show PyProof.Rows.lexLt itemOrd (W.keyToks (PyData.tuple [PyData.int a, PyData.int b])) (W.keyToks (PyData.tuple [PyData.int c, PyData.int d])) = _
  rw [e, e, lex_int, lex_int, lex_int, lex_int, lex_int]
  have z : PyProof.Rows.lexLt itemOrd [] [] = false := by unfold PyProof.Rows.lexLt; rfl
  rw [z, Bool.eq_iff_iff]
  simp only [Bool.or_eq_true, Bool.and_eq_true, Bool.not_eq_true', decide_eq_true_eq, decide_eq_false_iff_not, Bool.false_eq_true, and_false, or_false]
  omega
end Hull
/-! where a point lies -/
namespace Hull
open DL PySem PySem.Spec PyProof.Rows L2
def sgn (i : Int) : Int := if 0 < i then 1 else if i < 0 then -1 else 0
theorem sgn_mono {i j : Int} (h : i ≤ j) : sgn i ≤ sgn j := by unfold sgn; (repeat' split) <;> omega
theorem turn_sgn (P Q R : Pt) : turn P Q R = sgn (span P Q R) := by
  unfold turn sgn span
  (repeat' split) <;> omega
theorem sgn_ints (i : Int) : (if i > 0 then (1 : Int) else 0) - (if i < 0 then 1 else 0) = sgn i := by
  unfold sgn
  (repeat' split) <;> omega
/-- the side behind the k-th corner -/
def sd (ps : List Pt) (p : Pt) (i : Nat) : Int := span (ps.getD i (0, 0)) (ps.getD ((i + 1) % ps.length) (0, 0)) p
def low (ps : List Pt) (p : Pt) : Int := (((List.range ps.length).map (sd ps p)).min?).getD 0
theorem low_spec {ps : List Pt} (h : ps ≠ []) (p : Pt) : ((List.range ps.length).map (sd ps p)).min? = some (low ps p) := by
  unfold low
  cases e : ((List.range ps.length).map (sd ps p)).min? with
  | none =>
    have := List.min?_eq_none_iff.mp e
    rw [List.map_eq_nil_iff, List.range_eq_nil] at this
    exact absurd (List.length_eq_zero_iff.mp this) h
  | some m => rfl
def pv (n k : Nat) : Nat := if k = 0 then n - 1 else k - 1
theorem pv_nx {n k : Nat} (h : k < n) : (pv n k + 1) % n = k ∧ pv n k < n := by
  unfold pv
  split
  · rename_i e; subst e
    have : n - 1 + 1 = n := by omega
    rw [this, Nat.mod_self]; omega
  · have : k - 1 + 1 = k := by omega
    rw [this, Nat.mod_eq_of_lt h]; omega
/-- the turns at each corner, told from the one ahead of it -/
theorem low_turns {ps : List Pt} (h : ps ≠ []) (p : Pt) : ((List.range ps.length).map fun k => turn (ps.getD (pv ps.length k) (0, 0)) (ps.getD k (0, 0)) p).min? = some (sgn (low ps p)) := by
  obtain ⟨m1, m2⟩ := List.min?_eq_some_iff.mp (low_spec h p)
  refine List.min?_eq_some_iff.mpr ⟨?_, fun b hb => ?_⟩
  · obtain ⟨i, hi, e⟩ := List.mem_map.mp m1
    have hi := List.mem_range.mp hi
    refine List.mem_map.mpr ⟨(i + 1) % ps.length, List.mem_range.mpr (Nat.mod_lt _ (by omega)), ?_⟩
    rw [turn_sgn, ← e]
    have : pv ps.length ((i + 1) % ps.length) = i := by
      by_cases z : i + 1 = ps.length
      · rw [z, Nat.mod_self]; unfold pv; rw [if_pos rfl]; omega
      · rw [Nat.mod_eq_of_lt (by omega)]; unfold pv; rw [if_neg (by omega)]; omega
    rw [this]; rfl
  · obtain ⟨k, hk, rfl⟩ := List.mem_map.mp hb
    have hk := List.mem_range.mp hk
    rw [turn_sgn]
    refine sgn_mono ?_
    obtain ⟨e, l⟩ := pv_nx hk
    have := m2 (sd ps p (pv ps.length k)) (List.mem_map_of_mem (List.mem_range.mpr l))
    unfold sd at this
    rw [e] at this
    exact this
/-- of one corner or two -/
def flat (ps : List Pt) (p : Pt) : Prop := span (ps.getD 0 (0, 0)) (ps.getD (ps.length - 1) (0, 0)) p = 0 ∧ ¬ LtP p (ps.getD 0 (0, 0)) ∧ ¬ LtP (ps.getD (ps.length - 1) (0, 0)) p
instance (ps : List Pt) (p : Pt) : Decidable (flat ps p) := by unfold flat; infer_instance
def whr (ps : List Pt) (p : Pt) : Int := if ps.length < 3 then (if flat ps p then 0 else -1) else sgn (low ps p)
/-! places -/
theorem at_k {ps : List Pt} {k : Nat} (h : k < ps.length) : atI (ps.map pt) (k : Int) = some (pt (ps.getD k (0, 0))) := by
  refine atI_nat ?_
  rw [List.getElem?_map, List.getElem?_eq_getElem h, List.getD_eq_getElem?_getD, List.getElem?_eq_getElem h]; rfl
theorem at_kI {ps : List Pt} {i : Int} {k : Nat} (e : i = (k : Int)) (h : k < ps.length) : atI (ps.map pt) i = some (pt (ps.getD k (0, 0))) := by rw [e]; exact at_k h
theorem at_last {ps : List Pt} (h : ps ≠ []) : atI (ps.map pt) (-1) = some (pt (ps.getD (ps.length - 1) (0, 0))) := by
  have hl : 0 < ps.length := List.length_pos_iff.mpr h
  unfold atI ixN
  rw [if_neg (by decide), if_pos (by rw [List.length_map]; omega)]
  have : ((-1 : Int) + ((ps.map pt).length : Int)).toNat = ps.length - 1 := by rw [List.length_map]; omega
  rw [this]
  show (ps.map pt)[ps.length - 1]? = _
  rw [List.getElem?_map, List.getElem?_eq_getElem (by omega), List.getD_eq_getElem?_getD, List.getElem?_eq_getElem (by omega)]; rfl
theorem at_prev {ps : List Pt} {k : Nat} (h : k < ps.length) : atI (ps.map pt) ((k : Int) - 1) = some (pt (ps.getD (pv ps.length k) (0, 0))) := by
  unfold pv
  split
  · rename_i e; subst e
    exact at_last (by intro e; subst e; simp at h)
  · exact at_kI (by omega) (by omega)
theorem getD_mem {ps : List Pt} {k : Nat} (h : k < ps.length) : ps.getD k (0, 0) ∈ ps := by
  rw [List.getD_eq_getElem?_getD, List.getElem?_eq_getElem h]; exact List.getElem_mem h
end Hull
/-! the least and the greatest of some points; the ends of a hull -/
namespace Hull
open DL PySem PySem.Spec PyProof.Rows L2
theorem minO_pts : ∀ (ps : List Pt) (p : Pt), ∃ m, minO (pt p) (ps.map pt) = pt m ∧ m ∈ p :: ps ∧ ∀ q ∈ p :: ps, q = m ∨ LtP m q
  | [], p => ⟨p, rfl, by simp, by simp⟩
  | x :: ps, p => by
    have e : minO (pt p) ((x :: ps).map pt) = minO (if ltD (pt x) (pt p) = true then pt x else pt p) (ps.map pt) := rfl
    rw [e, ltD_pt]
    by_cases h : LtP x p
    · rw [decide_eq_true (show x.1 < p.1 ∨ (x.1 = p.1 ∧ x.2 < p.2) from h), if_pos rfl]
      obtain ⟨m, e1, e2, e3⟩ := minO_pts ps x
      refine ⟨m, e1, List.mem_cons_of_mem _ e2, fun q hq => ?_⟩
      rcases List.mem_cons.mp hq with rfl | hq
      · rcases e3 x (by simp) with rfl | h2
        · exact .inr h
        · exact .inr (ltp_tr h2 h)
      · exact e3 q hq
    · rw [decide_eq_false (show ¬ (x.1 < p.1 ∨ (x.1 = p.1 ∧ x.2 < p.2)) from h), if_neg Bool.false_ne_true]
      obtain ⟨m, e1, e2, e3⟩ := minO_pts ps p
      refine ⟨m, e1, by rcases List.mem_cons.mp e2 with rfl | e2 <;> simp [*], fun q hq => ?_⟩
      rcases List.mem_cons.mp hq with rfl | hq
      · exact e3 q (by simp)
      · rcases List.mem_cons.mp hq with rfl | hq
        · by_cases hx : q = p
          · subst hx; exact e3 q (by simp)
          · rcases e3 p (by simp) with rfl | h2
            · rcases ltp_tot hx with h3 | h3
              · exact absurd h3 h
              · exact .inr h3
            · rcases ltp_tot hx with h3 | h3
              · exact absurd h3 h
              · exact .inr (ltp_tr h2 h3)
        · exact e3 q (by simp [hq])
theorem maxO_pts : ∀ (ps : List Pt) (p : Pt), ∃ m, maxO (pt p) (ps.map pt) = pt m ∧ m ∈ p :: ps ∧ ∀ q ∈ p :: ps, q = m ∨ LtP q m
  | [], p => ⟨p, rfl, by simp, by simp⟩
  | x :: ps, p => by
    have e : maxO (pt p) ((x :: ps).map pt) = maxO (if ltD (pt p) (pt x) = true then pt x else pt p) (ps.map pt) := rfl
    rw [e, ltD_pt]
    by_cases h : LtP p x
    · rw [decide_eq_true (show p.1 < x.1 ∨ (p.1 = x.1 ∧ p.2 < x.2) from h), if_pos rfl]
      obtain ⟨m, e1, e2, e3⟩ := maxO_pts ps x
      refine ⟨m, e1, List.mem_cons_of_mem _ e2, fun q hq => ?_⟩
      rcases List.mem_cons.mp hq with rfl | hq
      · rcases e3 x (by simp) with rfl | h2
        · exact .inr h
        · exact .inr (ltp_tr h h2)
      · exact e3 q hq
    · rw [decide_eq_false (show ¬ (p.1 < x.1 ∨ (p.1 = x.1 ∧ p.2 < x.2)) from h), if_neg Bool.false_ne_true]
      obtain ⟨m, e1, e2, e3⟩ := maxO_pts ps p
      refine ⟨m, e1, by rcases List.mem_cons.mp e2 with rfl | e2 <;> simp [*], fun q hq => ?_⟩
      rcases List.mem_cons.mp hq with rfl | hq
      · exact e3 q (by simp)
      · rcases List.mem_cons.mp hq with rfl | hq
        · by_cases hx : q = p
          · subst hx; exact e3 q (by simp)
          · rcases e3 p (by simp) with rfl | h2
            · rcases ltp_tot hx with h3 | h3
              · exact .inr h3
              · exact absurd h3 h
            · rcases ltp_tot hx with h3 | h3
              · exact .inr (ltp_tr h3 h2)
              · exact absurd h3 h
        · exact e3 q (by simp [hq])
theorem least_uniq {X : List Pt} {a b : Pt} (ha : a ∈ X) (hb : b ∈ X) (h : ∀ q ∈ X, q = a ∨ LtP a q) (h' : ∀ q ∈ X, q = b ∨ LtP b q) : a = b := by
  rcases h b hb with e | e
  · exact e.symm
  · rcases h' a ha with e' | e'
    · exact e'
    · exact absurd (ltp_tr e e') (ltp_irr _)
theorem most_uniq {X : List Pt} {a b : Pt} (ha : a ∈ X) (hb : b ∈ X) (h : ∀ q ∈ X, q = a ∨ LtP q a) (h' : ∀ q ∈ X, q = b ∨ LtP q b) : a = b := by
  rcases h b hb with e | e
  · exact e.symm
  · rcases h' a ha with e' | e'
    · exact e'
    · exact absurd (ltp_tr e e') (ltp_irr _)
theorem alk_pts (ps : List Pt) : AlkOk (ps.map pt) := by
  refine ⟨shp_ptsL 62 ps, ?_, ?_⟩
  · intro x hx y hy
    rw [toPyL_map] at hx hy
    obtain ⟨a, ha, rfl⟩ := List.mem_map.mp hx
    obtain ⟨b, hb, rfl⟩ := List.mem_map.mp hy
    obtain ⟨p, _, rfl⟩ := List.mem_map.mp ha
    obtain ⟨q, _, rfl⟩ := List.mem_map.mp hb
    rfl
  · intro x hx
    rw [toPyL_map] at hx
    obtain ⟨a, ha, rfl⟩ := List.mem_map.mp hx
    obtain ⟨p, _, rfl⟩ := List.mem_map.mp ha
    intro h
    exact nomatch h
theorem mn_pts {ps : List Pt} (h0 : ps ≠ []) {P : Dat → List Dat → Prop} (h : ∀ d ds m, ps.map pt = d :: ds → AlkOk (d :: ds) → minO d ds = pt m → m ∈ ps → (∀ q ∈ ps, q = m ∨ LtP m q) → P d ds) : match ps.map pt with | d :: ds => P d ds | [] => False := by
  match ps, h0 with
  | p :: ps, _ =>
    obtain ⟨m, e1, e2, e3⟩ := minO_pts ps p
    exact h _ _ m rfl (alk_pts (p :: ps)) e1 e2 e3
/-- the ends of a hull -/
theorem hull_ends {X : List Pt} (h0 : X ≠ []) : ∃ a t, hull X = a :: t ∧ a ∈ X ∧ (∀ q ∈ X, q = a ∨ LtP a q) ∧ (t.length ≤ 1 → ∃ z, (a :: t).getLast? = some z ∧ z ∈ X ∧ ∀ q ∈ X, q = z ∨ LtP q z) := by
  rcases Nat.lt_or_ge (srt X).length 2 with hl | hl
  · match hs : srt X, hl with
    | [], _ =>
      match X, h0 with
      | x :: X, _ => have := (mem_srt (x :: X) x).mpr (by simp); rw [hs] at this; exact absurd this (by simp)
    | [x], _ =>
      have all : ∀ q ∈ X, q = x := fun q hq => by have := (mem_srt X q).mpr hq; rw [hs] at this; exact List.mem_singleton.mp this
      have mx : x ∈ X := (mem_srt X x).mp (by rw [hs]; simp)
      exact ⟨x, [], hull_one hs, mx, fun q hq => .inl (all q hq), fun _ => ⟨x, rfl, mx, fun q hq => .inl (all q hq)⟩⟩
  · obtain ⟨a, z, r, r', T⟩ := two_of (pw_srt X) hl
    have hf := hull_first T
    cases e : hull X with
    | nil => rw [e] at hf; exact nomatch hf
    | cons b t =>
      rw [e] at hf
      have : b = a := by simpa using hf
      subst this
      have cv : ∀ q, q ∈ X → q ∈ srt X := fun q hq => (mem_srt X q).mpr hq
      refine ⟨b, t, rfl, (mem_srt X b).mp T.ma, fun q hq => T.first q (cv q hq), fun ht => ⟨z, ?_, (mem_srt X z).mp T.mz, fun q hq => T.last q (cv q hq)⟩⟩
      have mz : z ∈ hull X := (mem_hull T z).mpr (.inl (by simp))
      rw [e] at mz
      rcases List.mem_cons.mp mz with h | h
      · have := T.az
        rw [h] at this
        exact absurd this (ltp_irr _)
      · match t, ht, h with
        | [y], _, h => rw [List.mem_singleton.mp h]; rfl
end Hull
/-! how far points reach along a direction -/
namespace Hull
open DL PySem PySem.Spec PyProof.Rows L2
def wr (a b : Int) (p : Pt) : Int := a * p.1 + b * p.2
def mx (l : List Int) : Int := l.max?.getD 0
def mn (l : List Int) : Int := l.min?.getD 0
def spn (ps : List Pt) (a b : Int) : Int := mx (ps.map (wr a b)) - mn (ps.map (wr a b))
theorem mx_spec {l : List Int} (h : l ≠ []) : l.max? = some (mx l) := by
  unfold mx
  cases e : l.max? with
  | none => exact absurd (List.max?_eq_none_iff.mp e) h
  | some m => rfl
theorem mn_spec {l : List Int} (h : l ≠ []) : l.min? = some (mn l) := by
  unfold mn
  cases e : l.min? with
  | none => exact absurd (List.min?_eq_none_iff.mp e) h
  | some m => rfl
theorem mx_of {l : List Int} {M : Int} (h : M ∈ l) (h' : ∀ x ∈ l, x ≤ M) : mx l = M := by
  unfold mx
  rw [List.max?_eq_some_iff.mpr ⟨h, h'⟩]; rfl
theorem mn_of {l : List Int} {M : Int} (h : M ∈ l) (h' : ∀ x ∈ l, M ≤ x) : mn l = M := by
  unfold mn
  rw [List.min?_eq_some_iff.mpr ⟨h, h'⟩]; rfl
/-- the points that reach farthest, both ways -/
structure Ends (ps : List Pt) (a b : Int) (p q : Pt) : Prop where
  mp : p ∈ ps
  mq : q ∈ ps
  top : ∀ r ∈ ps, wr a b r ≤ wr a b p
  bot : ∀ r ∈ ps, wr a b q ≤ wr a b r
theorem Ends.spn {ps : List Pt} {a b : Int} {p q : Pt} (h : Ends ps a b p q) : spn ps a b = wr a b p - wr a b q := by
  unfold Hull.spn
  rw [mx_of (List.mem_map_of_mem h.mp) fun x hx => ?_, mn_of (List.mem_map_of_mem h.mq) fun x hx => ?_]
  · obtain ⟨r, hr, rfl⟩ := List.mem_map.mp hx; exact h.bot r hr
  · obtain ⟨r, hr, rfl⟩ := List.mem_map.mp hx; exact h.top r hr
theorem ends_of {ps : List Pt} (h : ps ≠ []) (a b : Int) : ∃ p q, Ends ps a b p q := by
  have h' : ps.map (wr a b) ≠ [] := by simpa using h
  obtain ⟨m1, m2⟩ := List.max?_eq_some_iff.mp (mx_spec h')
  obtain ⟨n1, n2⟩ := List.min?_eq_some_iff.mp (mn_spec h')
  obtain ⟨p, hp, ep⟩ := List.mem_map.mp m1
  obtain ⟨q, hq, eq⟩ := List.mem_map.mp n1
  exact ⟨p, q, hp, hq, fun r hr => by rw [ep]; exact m2 _ (List.mem_map_of_mem hr), fun r hr => by rw [eq]; exact n2 _ (List.mem_map_of_mem hr)⟩
/-- a corner reaches farthest -/
theorem top_hull {X : List Pt} (h0 : X ≠ []) (a b : Int) : ∃ p ∈ hull X, ∀ r ∈ X, wr a b r ≤ wr a b p := by
  by_cases hz : a = 0 ∧ b = 0
  · obtain ⟨rfl, rfl⟩ := hz
    obtain ⟨p, t, e, _⟩ := hull_ends h0
    exact ⟨p, by rw [e]; simp, fun r _ => by unfold wr; simp⟩
  · have af : Aff (fun p : Pt => (-a * p.1 + -b * p.2, -b * p.1 + a * p.2)) (-a) (-b) (-b) a := by
      refine ⟨fun p q => ?_, fun p q => ?_⟩
      · show (-a * q.1 + -b * q.2) - (-a * p.1 + -b * p.2) = -a * (q.1 - p.1) + -b * (q.2 - p.2); grind
      · show (-b * q.1 + a * q.2) - (-b * p.1 + a * p.2) = -b * (q.1 - p.1) + a * (q.2 - p.2); grind
    have hd : -a * a - -b * -b ≠ 0 := by
      intro e
      have e1 : a * a + b * b = 0 := by grind
      have sq : ∀ x : Int, 0 ≤ x * x := fun x => by
        rcases Int.le_total 0 x with h | h
        · exact Int.mul_nonneg h h
        · have := Int.mul_nonneg (show 0 ≤ -x by omega) (show 0 ≤ -x by omega)
          rwa [Int.neg_mul_neg] at this
      have ha := sq a
      have hb := sq b
      have a0 : a * a = 0 := by omega
      have b0 : b * b = 0 := by omega
      exact hz ⟨(Int.mul_eq_zero.mp a0).elim id id, (Int.mul_eq_zero.mp b0).elim id id⟩
    have h1 : X.map (fun p : Pt => (-a * p.1 + -b * p.2, -b * p.1 + a * p.2)) ≠ [] := by simpa using h0
    obtain ⟨c, t, e, mc, fc, _⟩ := hull_ends h1
    obtain ⟨p, hp, rfl⟩ := List.mem_map.mp mc
    have hh : (fun p : Pt => (-a * p.1 + -b * p.2, -b * p.1 + a * p.2)) p ∈ hull (X.map (fun p : Pt => (-a * p.1 + -b * p.2, -b * p.1 + a * p.2))) := by rw [e]; simp
    refine ⟨p, (hull_pic af hd).mp hh, fun r hr => ?_⟩
    have hr' := fc _ (List.mem_map_of_mem hr)
    unfold wr
    rcases hr' with e | e
    · simp only [Prod.mk.injEq] at e
      have := e.1
      have e1 : -a * r.1 + -b * r.2 = -(a * r.1 + b * r.2) := by grind
      have e2 : -a * p.1 + -b * p.2 = -(a * p.1 + b * p.2) := by grind
      omega
    · unfold LtP at e
      dsimp only at e
      have e1 : -a * r.1 + -b * r.2 = -(a * r.1 + b * r.2) := by grind
      have e2 : -a * p.1 + -b * p.2 = -(a * p.1 + b * p.2) := by grind
      omega
theorem spn_neg {ps : List Pt} (h : ps ≠ []) (a b : Int) : spn ps (-a) (-b) = spn ps a b := by
  obtain ⟨p, q, e⟩ := ends_of h a b
  have en : ∀ r, wr (-a) (-b) r = -wr a b r := fun r => by unfold wr; grind
  have e' : Ends ps (-a) (-b) q p := ⟨e.mq, e.mp, fun r hr => by rw [en, en]; have := e.bot r hr; omega, fun r hr => by rw [en, en]; have := e.top r hr; omega⟩
  rw [e.spn, e'.spn, en, en]; omega
theorem spn_hull {X : List Pt} (h : X ≠ []) (a b : Int) : spn (hull X) a b = spn X a b := by
  obtain ⟨p, hp, tp⟩ := top_hull h a b
  obtain ⟨q, hq, tq⟩ := top_hull h (-a) (-b)
  have en : ∀ r, wr (-a) (-b) r = -wr a b r := fun r => by unfold wr; grind
  have bq : ∀ r ∈ X, wr a b q ≤ wr a b r := fun r hr => by have := tq r hr; rw [en, en] at this; omega
  have e1 : Ends X a b p q := ⟨hull_mem hp, hull_mem hq, tp, bq⟩
  have e2 : Ends (hull X) a b p q := ⟨hp, hq, fun r hr => tp r (hull_mem hr), fun r hr => bq r (hull_mem hr)⟩
  rw [e1.spn, e2.spn]
theorem spn_off {ps : List Pt} (h : ps ≠ []) (a b x y : Int) : spn (ps.map fun p => (p.1 + x, p.2 + y)) a b = spn ps a b := by
  obtain ⟨p, q, e⟩ := ends_of h a b
  have en : ∀ r : Pt, wr a b (r.1 + x, r.2 + y) = wr a b r + wr a b (x, y) := fun r => by unfold wr; grind
  have e' : Ends (ps.map fun p => (p.1 + x, p.2 + y)) a b (p.1 + x, p.2 + y) (q.1 + x, q.2 + y) := by
    refine ⟨List.mem_map.mpr ⟨p, e.mp, rfl⟩, List.mem_map.mpr ⟨q, e.mq, rfl⟩, fun r hr => ?_, fun r hr => ?_⟩
    · obtain ⟨s, hs, rfl⟩ := List.mem_map.mp hr; rw [en, en]; have := e.top s hs; omega
    · obtain ⟨s, hs, rfl⟩ := List.mem_map.mp hr; rw [en, en]; have := e.bot s hs; omega
  rw [e.spn, e'.spn, en, en]; omega
theorem spn_times {ps : List Pt} (h : ps ≠ []) (m a b : Int) : spn ps (m * a) (m * b) = (if m < 0 then -m else m) * spn ps a b := by
  have en : ∀ r, wr (m * a) (m * b) r = m * wr a b r := fun r => by unfold wr; grind
  obtain ⟨p, q, e⟩ := ends_of h a b
  by_cases hm : m < 0
  · have e' : Ends ps (m * a) (m * b) q p := ⟨e.mq, e.mp, fun r hr => by rw [en, en]; exact Int.mul_le_mul_of_nonpos_left (by omega) (e.bot r hr), fun r hr => by rw [en, en]; exact Int.mul_le_mul_of_nonpos_left (by omega) (e.top r hr)⟩
    rw [if_pos hm, e.spn, e'.spn, en, en]; grind
  · have e' : Ends ps (m * a) (m * b) p q := ⟨e.mp, e.mq, fun r hr => by rw [en, en]; exact Int.mul_le_mul_of_nonneg_left (e.top r hr) (by omega), fun r hr => by rw [en, en]; exact Int.mul_le_mul_of_nonneg_left (e.bot r hr) (by omega)⟩
    rw [if_neg hm, e.spn, e'.spn, en, en]; grind
theorem spn_zero {ps : List Pt} (h : ps ≠ []) : spn ps 0 0 = 0 := by
  obtain ⟨p, q, e⟩ := ends_of h 0 0
  rw [e.spn]; unfold wr; simp
theorem spn_bt {ps : List Pt} {k j : Nat} (h : ps ≠ []) {a b : Int} (ha : Bt j a) (hb : Bt j b) (hp : ∀ p ∈ ps, BP k p) : Bt (j + k + 2) (spn ps a b) := by
  obtain ⟨p, q, e⟩ := ends_of h a b
  rw [e.spn]
  have w : ∀ r ∈ ps, Bt (j + k + 1) (wr a b r) := fun r hr => ((ha.mul (hp r hr).x).add (hb.mul (hp r hr).y)).mono (by omega)
  exact ((w p e.mp).sub (w q e.mq)).mono (by omega)
end Hull
/-! points put in order -/
namespace Hull
open DL PySem PySem.Spec PyProof.Rows L2
theorem srtok_pts (ps : List Pt) : SrtOk (ps.map pt) := by
  refine ⟨shp_ptsL 62 ps, ?_, .inl ?_⟩
  · intro x hx y hy
    rw [toPyL_map] at hx hy
    obtain ⟨a, ha, rfl⟩ := List.mem_map.mp hx
    obtain ⟨b, hb, rfl⟩ := List.mem_map.mp hy
    obtain ⟨p, _, rfl⟩ := List.mem_map.mp ha
    obtain ⟨q, _, rfl⟩ := List.mem_map.mp hb
    rfl
  · intro x hx
    rw [toPyL_map] at hx
    obtain ⟨a, ha, rfl⟩ := List.mem_map.mp hx
    obtain ⟨p, _, rfl⟩ := List.mem_map.mp ha
    exact ⟨_, _, rfl⟩
theorem sortD_pts {ps : List Pt} (hn : ps.Nodup) : sortD (ps.map pt) = (srt ps).map pt := by
  unfold sortD
  rw [← List.map_mergeSort (l := ps) (r := fun a b => !ltD (pt b) (pt a)) (s := fun a b => !ltD b a) (f := pt) (fun a _ b _ => rfl)]
  congr 1
  have le : ∀ a b : Pt, (!ltD (pt b) (pt a)) = true ↔ ¬ LtP b a := fun a b => by
    rw [ltD_pt]
    show (!decide (b.1 < a.1 ∨ (b.1 = a.1 ∧ b.2 < a.2))) = true ↔ ¬ LtP b a
    unfold LtP
    simp
    intro _
    by_cases h : b.1 = a.1 <;> simp [h]
  have pw := List.pairwise_mergeSort (le := fun a b : Pt => !ltD (pt b) (pt a)) (fun a b c h1 h2 => by
      rw [le] at h1 h2 ⊢
      unfold LtP at *
      omega) (fun a b => by
      rw [Bool.or_eq_true, le, le]
      unfold LtP
      omega) ps
  have pm := List.mergeSort_perm ps (fun a b : Pt => !ltD (pt b) (pt a))
  have nd : (ps.mergeSort fun a b : Pt => !ltD (pt b) (pt a)).Nodup := pm.nodup_iff.mpr hn
  refine srt_uniq ((pw.and nd).imp fun {a b} h => ?_) fun p => pm.mem_iff
  have h1 := (le a b).mp h.1
  rcases ltp_tot h.2 with z | z
  · exact z
  · exact absurd z h1
end Hull
/-! the order of data that are made of whole numbers alone, by a row of numbers -/
namespace Hull
open DL PySem PySem.Spec PyProof.Rows L2
theorem lex_nil (l : List Int) : PyProof.Rows.lexLt itemOrd (l.map Sum.inl) [] = false := by
  cases l <;> (unfold PyProof.Rows.lexLt; rfl)
theorem lex_nil2 (a : Int) (l : List Int) : PyProof.Rows.lexLt itemOrd [] ((a :: l).map Sum.inl) = true := by
  unfold PyProof.Rows.lexLt; rfl
theorem lex_ints : ∀ a b : List Int, PyProof.Rows.lexLt itemOrd (a.map Sum.inl) (b.map Sum.inl) = decide (a < b)
  | a, [] => by rw [List.map_nil, lex_nil]; simp
  | [], b :: bs => by rw [List.map_nil, lex_nil2]; simp
  | a :: as, b :: bs => by
    rw [List.map_cons, List.map_cons, lex_int, lex_ints as bs, Bool.eq_iff_iff]
    simp only [Bool.or_eq_true, Bool.and_eq_true, Bool.not_eq_true', decide_eq_true_eq, decide_eq_false_iff_not, List.cons_lt_cons_iff]
    constructor
    · rintro (h | ⟨h1, h2⟩)
      · exact .inl h
      · by_cases e : a < b
        · exact .inl e
        · exact .inr ⟨by omega, h2⟩
    · rintro (h | ⟨h1, h2⟩)
      · exact .inl h
      · exact .inr ⟨by omega, h2⟩
/-- data of one kind, told by rows of numbers -/
structure Kd {α : Type} (f : α → Dat) (key : α → List Int) : Prop where
  inj : ∀ x y, key x = key y → x = y
  tok : ∀ x, W.keyToks (toPy (f x)) = (key x).map Sum.inl
  al : ∀ x y, W.alike (toPy (f x)) (toPy (f y)) = true
  sh : ∀ x, shp 60 (f x) = true
  nn : ∀ x, toPy (f x) ≠ .none
  so : (∀ x, ∃ a r, toPy (f x) = .tuple (a :: r)) ∨ ∀ x xs, toPy (f x) ≠ .tuple xs
section
variable {α : Type} {f : α → Dat} {key : α → List Int} (D : Kd f key)
include D
theorem Kd.lt (x y : α) : ltD (f x) (f y) = decide (key x < key y) := by
  show PyProof.Rows.lexLt itemOrd (W.keyToks (toPy (f x))) (W.keyToks (toPy (f y))) = _
  rw [D.tok, D.tok, lex_ints]
theorem Kd.shL (xs : List α) : shpL 63 (xs.map f) = true := by
  induction xs with
  | nil => rfl
  | cons x xs ih =>
    rw [List.map_cons]
    unfold shpL
    rw [ih, shp_up (by decide : 60 ≤ 63) (D.sh x)]; rfl
theorem Kd.alk (xs : List α) : AlkOk (xs.map f) := by
  refine ⟨D.shL xs, ?_, ?_⟩
  · intro x hx y hy
    rw [toPyL_map] at hx hy
    obtain ⟨a, ha, rfl⟩ := List.mem_map.mp hx
    obtain ⟨b, hb, rfl⟩ := List.mem_map.mp hy
    obtain ⟨p, _, rfl⟩ := List.mem_map.mp ha
    obtain ⟨q, _, rfl⟩ := List.mem_map.mp hb
    exact D.al p q
  · intro x hx
    rw [toPyL_map] at hx
    obtain ⟨a, ha, rfl⟩ := List.mem_map.mp hx
    obtain ⟨p, _, rfl⟩ := List.mem_map.mp ha
    exact D.nn p
theorem Kd.srt (xs : List α) : SrtOk (xs.map f) := by
  refine ⟨D.shL xs, (D.alk xs).al.1, ?_⟩
  have mem : ∀ d ∈ toPyL (xs.map f), ∃ x, d = toPy (f x) := fun d hd => by
    rw [toPyL_map] at hd
    obtain ⟨a, ha, rfl⟩ := List.mem_map.mp hd
    obtain ⟨p, _, rfl⟩ := List.mem_map.mp ha
    exact ⟨p, rfl⟩
  rcases D.so with h | h
  · refine .inl fun d hd => ?_
    obtain ⟨x, rfl⟩ := mem d hd
    exact h x
  · refine .inr fun d hd => ?_
    obtain ⟨x, rfl⟩ := mem d hd
    exact ⟨D.nn x, h x⟩
theorem Kd.min : ∀ (xs : List α) (x : α), ∃ m, minO (f x) (xs.map f) = f m ∧ m ∈ x :: xs ∧ ∀ y ∈ x :: xs, ¬ key y < key m
  | [], x => ⟨x, rfl, by simp, fun y hy => by rw [List.mem_singleton.mp hy]; exact List.lt_irrefl _⟩
  | y :: xs, x => by
    have step : minO (f x) ((y :: xs).map f) = minO (if key y < key x then f y else f x) (xs.map f) := by
      rw [List.map_cons]
      unfold minO
      rw [List.foldl_cons, D.lt]
      simp only [decide_eq_true_eq]
    rw [step]
    by_cases h : key y < key x
    · rw [if_pos h]
      obtain ⟨m, e, hm, hl⟩ := Kd.min xs y
      refine ⟨m, e, by simp only [List.mem_cons] at hm ⊢; rcases hm with hm | hm <;> simp [hm], fun z hz => ?_⟩
      simp only [List.mem_cons] at hz
      rcases hz with rfl | hz
      · intro c
        exact hl y (by simp) (List.lt_trans h c)
      · exact hl z (by simp only [List.mem_cons]; exact hz)
    · rw [if_neg h]
      obtain ⟨m, e, hm, hl⟩ := Kd.min xs x
      refine ⟨m, e, by simp only [List.mem_cons] at hm ⊢; rcases hm with hm | hm <;> simp [hm], fun z hz => ?_⟩
      simp only [List.mem_cons] at hz
      rcases hz with rfl | rfl | hz
      · exact hl z (by simp)
      · intro c
        have hx := hl x (by simp)
        have le1 : key x ≤ key z := List.not_lt.mp h
        exact hx (List.lt_of_le_of_lt le1 c)
      · exact hl z (by simp [hz])
/-- min of a list -/
theorem Kd.mn {xs : List α} (h0 : xs ≠ []) {P : Dat → List Dat → Prop} (h : ∀ d ds m, xs.map f = d :: ds → AlkOk (d :: ds) → minO d ds = f m → m ∈ xs → (∀ y ∈ xs, ¬ key y < key m) → P d ds) : match xs.map f with | d :: ds => P d ds | [] => False := by
  match xs, h0 with
  | x :: xs, _ =>
    obtain ⟨m, e1, e2, e3⟩ := D.min xs x
    exact h _ _ m rfl (D.alk (x :: xs)) e1 e2 e3
theorem Kd.sort (xs : List α) : ∃ ys : List α, sortD (xs.map f) = ys.map f ∧ ys.Perm xs ∧ ys.Pairwise fun a b => ¬ key b < key a := by
  refine ⟨xs.mergeSort (fun a b => !ltD (f b) (f a)), ?_, List.mergeSort_perm _ _, ?_⟩
  · unfold sortD
    rw [← List.map_mergeSort (l := xs) (r := fun a b => !ltD (f b) (f a)) (s := fun a b => !ltD b a) (f := f) (fun a _ b _ => rfl)]
  · have le : ∀ a b : α, (!ltD (f b) (f a)) = true ↔ ¬ key b < key a := fun a b => by
      rw [D.lt, Bool.not_eq_true', decide_eq_false_iff_not]
    have pw := List.pairwise_mergeSort (le := fun a b : α => !ltD (f b) (f a)) (fun a b c h1 h2 => by
      rw [le] at h1 h2 ⊢
      exact List.not_lt.mpr (List.le_trans (List.not_lt.mp h1) (List.not_lt.mp h2))) (fun a b => by
      rw [Bool.or_eq_true, le, le]
      rcases List.le_total (key a) (key b) with h | h
      · exact .inl (List.not_lt.mpr h)
      · exact .inr (List.not_lt.mpr h)) xs
    exact pw.imp fun {a b} h => (le a b).mp h
theorem Kd.eq_of {x y : α} (h1 : ¬ key x < key y) (h2 : ¬ key y < key x) : x = y := D.inj x y (List.le_antisymm (List.not_lt.mp h2) (List.not_lt.mp h1))
end
/-! points, lists of points, moves, both together -/
def kP (p : Pt) : List Int := [1, p.1, 1, p.2, 0]
def kL : List Pt → List Int
  | [] => [0]
  | p :: ps => 1 :: (kP p ++ kL ps)
def kM (m : Mov.Mv) : List Int := [1, m.a, 1, m.b, 1, m.c, 1, m.d, 1, m.e, 1, m.f, 0]
def kLM (x : List Pt × Mov.Mv) : List Int := 1 :: (kL x.1 ++ (1 :: (kM x.2 ++ [0])))
def lm (x : List Pt × Mov.Mv) : Dat := .tup [.lst (x.1.map pt), Mov.mv x.2]
theorem tok_pt (p : Pt) : W.keyToks (toPy (pt p)) = (kP p).map Sum.inl := by
  show W.keyToks (PyData.tuple [PyData.int p.1, PyData.int p.2]) = _
  simp only [W.keyToks, W.keyToksAll]; rfl
theorem tok_pts : ∀ ps : List Pt, W.keyToksAll (toPyL (ps.map pt)) = (kL ps).map Sum.inl
  | [] => by rw [List.map_nil]; unfold toPyL W.keyToksAll; rfl
  | p :: ps => by
    rw [List.map_cons]
    unfold toPyL W.keyToksAll
    rw [tok_pt, tok_pts ps]
    show _ = (1 :: (kP p ++ kL ps)).map Sum.inl
    rw [List.map_cons, List.map_append]
theorem tok_mv (m : Mov.Mv) : W.keyToks (toPy (Mov.mv m)) = (kM m).map Sum.inl := by
  show W.keyToks (PyData.tuple [PyData.int m.a, PyData.int m.b, PyData.int m.c, PyData.int m.d, PyData.int m.e, PyData.int m.f]) = _
  simp only [W.keyToks, W.keyToksAll]; rfl
theorem kL_inj : ∀ {ps qs : List Pt}, kL ps = kL qs → ps = qs
  | [], [], _ => rfl
  | [], q :: qs, h => by unfold kL at h; simp at h
  | p :: ps, [], h => by unfold kL at h; simp at h
  | p :: ps, q :: qs, h => by
    unfold kL kP at h
    simp only [List.cons_append, List.nil_append, List.cons.injEq, true_and] at h
    rw [Prod.ext h.1 h.2.1, kL_inj h.2.2]
theorem kL_pre : ∀ {ps qs : List Pt} {r s : List Int}, kL ps ++ r = kL qs ++ s → ps = qs ∧ r = s
  | [], [], r, s, h => ⟨rfl, by unfold kL at h; simpa using h⟩
  | [], q :: qs, r, s, h => by unfold kL at h; simp at h
  | p :: ps, [], r, s, h => by unfold kL at h; simp at h
  | p :: ps, q :: qs, r, s, h => by
    unfold kL kP at h
    simp only [List.cons_append, List.nil_append, List.cons.injEq, true_and, List.append_assoc] at h
    obtain ⟨e1, e2⟩ := kL_pre h.2.2
    exact ⟨by rw [Prod.ext h.1 h.2.1, e1], e2⟩
theorem kM_inj {m n : Mov.Mv} (h : kM m = kM n) : m = n := by
  unfold kM at h
  simp only [List.cons.injEq, true_and, and_true] at h
  obtain ⟨h1, h2, h3, h4, h5, h6⟩ := h
  cases m; cases n
  simp_all
theorem alike_pts : ∀ ps qs : List Pt, W.alikeAll (toPyL (ps.map pt)) (toPyL (qs.map pt)) = true
  | [], qs => by rw [List.map_nil]; unfold toPyL W.alikeAll; cases toPyL (qs.map pt) <;> rfl
  | p :: ps, [] => by rw [List.map_nil, List.map_cons]; unfold toPyL W.alikeAll; rfl
  | p :: ps, q :: qs => by
    rw [List.map_cons, List.map_cons]
    unfold toPyL W.alikeAll
    rw [alike_pts ps qs]
    rfl
theorem shp_pts60 : ∀ (n : Nat) (ps : List Pt), shpL (n + 1) (ps.map pt) = true
  | n, [] => by unfold List.map shpL; rfl
  | n, p :: ps => by
    rw [List.map_cons]
    unfold shpL
    rw [shp_pts60 n ps]
    cases n <;> rfl
theorem kd_pt : Kd pt kP := ⟨fun x y h => by unfold kP at h; simp only [List.cons.injEq, true_and, and_true] at h; exact Prod.ext h.1 h.2, tok_pt, fun x y => rfl, fun x => rfl, fun x h => (nomatch h), .inl fun x => ⟨_, _, rfl⟩⟩
theorem kd_pts : Kd (fun ps : List Pt => Dat.lst (ps.map pt)) kL := ⟨fun x y h => kL_inj h, fun x => by
    show W.keyToks (toPy (Dat.lst (x.map pt))) = _
    unfold toPy W.keyToks
    exact tok_pts x, fun x y => by
    show W.alike (toPy (Dat.lst (x.map pt))) (toPy (Dat.lst (y.map pt))) = true
    unfold toPy W.alike
    exact alike_pts x y, fun x => shp_pts60 58 x, fun x h => (by unfold toPy at h; exact nomatch h), .inr fun x xs h => (by unfold toPy at h; exact nomatch h)⟩
theorem kd_mv : Kd Mov.mv kM := ⟨fun x y h => kM_inj h, tok_mv, fun x y => rfl, fun x => rfl, fun x h => (nomatch h), .inl fun x => ⟨_, _, rfl⟩⟩
theorem kd_lm : Kd lm kLM := ⟨fun x y h => by
    unfold kLM at h
    simp only [List.cons.injEq, true_and] at h
    obtain ⟨e1, e2⟩ := kL_pre h
    simp only [List.cons.injEq, true_and] at e2
    exact Prod.ext e1 (kM_inj (List.append_cancel_right e2)), fun x => by
    show W.keyToks (toPy (Dat.tup [.lst (x.1.map pt), Mov.mv x.2])) = _
    unfold toPy toPyL toPyL toPyL W.keyToks W.keyToksAll W.keyToksAll W.keyToksAll
    rw [tok_mv]
    unfold toPy W.keyToks
    rw [tok_pts]
    unfold kLM
    simp, fun x y => by
    show W.alike (toPy (Dat.tup [.lst (x.1.map pt), Mov.mv x.2])) (toPy (Dat.tup [.lst (y.1.map pt), Mov.mv y.2])) = true
    have h := kd_mv.al x.2 y.2
    unfold toPy toPyL toPyL toPyL W.alike W.alikeAll W.alikeAll W.alikeAll
    rw [h]
    have h2 := kd_pts.al x.1 y.1
    rw [show W.alike (toPy (Dat.lst (x.1.map pt))) (toPy (Dat.lst (y.1.map pt))) = true from h2]; rfl, fun x => by
    show shp 60 (Dat.tup [.lst (x.1.map pt), Mov.mv x.2]) = true
    unfold shp shpL shpL shpL
    have h := shp_pts60 57 x.1
    have h2 : shp 59 (Dat.lst (x.1.map pt)) = true := h
    rw [h2]; rfl, fun x h => by
    have h : toPy (Dat.tup [.lst (x.1.map pt), Mov.mv x.2]) = .none := h
    (unfold toPy at h; exact (nomatch h)), .inl fun x => by
    refine ⟨toPy (.lst (x.1.map pt)), [toPy (Mov.mv x.2)], ?_⟩
    show toPy (Dat.tup [.lst (x.1.map pt), Mov.mv x.2]) = _
    conv => lhs; unfold toPy
    unfold toPyL toPyL toPyL; rfl⟩
/-- the order of two pairs -/
theorem kL_lt : ∀ (ps qs : List Pt) (r s : List Int), kL ps ++ r < kL qs ++ s ↔ kL ps < kL qs ∨ (ps = qs ∧ r < s)
  | [], [], r, s => by
    unfold kL
    simp [List.cons_lt_cons_iff]
  | [], q :: qs, r, s => by
    unfold kL
    simp [List.cons_lt_cons_iff]
  | p :: ps, [], r, s => by
    unfold kL
    simp [List.cons_lt_cons_iff]
  | p :: ps, q :: qs, r, s => by
    have ih := kL_lt ps qs r s
    show 1 :: (kP p ++ kL ps) ++ r < 1 :: (kP q ++ kL qs) ++ s ↔ 1 :: (kP p ++ kL ps) < 1 :: (kP q ++ kL qs) ∨ _
    obtain ⟨a, b⟩ := p
    obtain ⟨c, d⟩ := q
    unfold kP
    simp only [List.cons_append, List.nil_append, List.append_assoc, List.cons_lt_cons_iff, ih, List.cons.injEq, Prod.mk.injEq, Int.lt_irrefl, false_or, true_and]
    constructor
    · rintro (h | ⟨h1, h | ⟨h2, h | h⟩⟩)
      · exact .inl (.inl h)
      · exact .inl (.inr ⟨h1, .inl h⟩)
      · exact .inl (.inr ⟨h1, .inr ⟨h2, h⟩⟩)
      · exact .inr ⟨⟨⟨h1, h2⟩, h.1⟩, h.2⟩
    · rintro ((h | ⟨h1, h | ⟨h2, h⟩⟩) | ⟨⟨⟨h1, h2⟩, h3⟩, h4⟩)
      · exact .inl h
      · exact .inr ⟨h1, .inl h⟩
      · exact .inr ⟨h1, .inr ⟨h2, .inl h⟩⟩
      · exact .inr ⟨h1, .inr ⟨h2, .inr ⟨h3, h4⟩⟩⟩
theorem kLM_lt (x y : List Pt × Mov.Mv) : kLM x < kLM y ↔ kL x.1 < kL y.1 ∨ (x.1 = y.1 ∧ kM x.2 < kM y.2) := by
  unfold kLM
  rw [List.cons_lt_cons_iff]
  simp only [Int.lt_irrefl, false_or, true_and]
  rw [kL_lt]
  have : 1 :: (kM x.2 ++ [0]) < 1 :: (kM y.2 ++ [0]) ↔ kM x.2 < kM y.2 := by
    unfold kM
    simp only [List.cons_append, List.nil_append, List.cons_lt_cons_iff, Int.lt_irrefl, false_or, true_and, List.lt_irrefl, and_false, or_false]
  rw [this]
end Hull
namespace Hull
open DL PySem PySem.Spec PyProof.Rows L2
theorem Kd.sort_perm {α : Type} {f : α → Dat} {key : α → List Int} (D : Kd f key) {xs ys : List α} (h : xs.Perm ys) : sortD (xs.map f) = sortD (ys.map f) := by
  obtain ⟨a, e1, p1, w1⟩ := D.sort xs
  obtain ⟨b, e2, p2, w2⟩ := D.sort ys
  rw [e1, e2]
  have : a = b := List.Perm.eq_of_pairwise (fun x y _ _ h1 h2 => D.eq_of h2 h1) w1 w2 ((p1.trans h).trans p2.symm)
  rw [this]
end Hull
/-! own dicts whose keys are points -/
namespace DL
open PySem PySem.Spec PyProof.Rows L2
theorem nk_pt {p q : Pt} : nkD (pt p) = nkD (pt q) ↔ p = q := by
  constructor
  · intro h
    simp only [pt, nkD, nkL, NestedKey.tup.injEq, List.cons.injEq, NestedKey.num.injEq, and_true] at h
    exact Prod.ext h.1 h.2
  · rintro rfl; rfl
theorem key_pt (p : Pt) : keyD (.v (pt p)) = some (pt p) := by
  unfold keyD pt
  simp [kOk, kOkL]
theorem hasD_pts (v : V) (q : Pt) : ∀ ps : List Pt, hasD (ps.map fun p => (pt p, v)) (pt q) = decide (q ∈ ps)
  | [] => by simp [hasD]
  | p :: ps => by
    have ih := hasD_pts v q ps
    unfold hasD at ih ⊢
    rw [List.map_cons, List.any_cons, ih, Bool.eq_iff_iff]
    simp only [Bool.or_eq_true, decide_eq_true_eq, nk_pt, List.mem_cons, eq_comm (a := p)]
theorem putD_pts (v : V) (q : Pt) (ps : List Pt) : putD (ps.map fun p => (pt p, v)) (pt q) v = (if q ∈ ps then ps else ps ++ [q]).map fun p => (pt p, v) := by
  unfold putD
  rw [hasD_pts]
  by_cases h : q ∈ ps
  · rw [if_pos (decide_eq_true h), if_pos h, List.map_map]
    refine List.map_congr_left fun p _ => ?_
    show (if nkD (pt p) = nkD (pt q) then (pt p, v) else (pt p, v)) = _
    split <;> rfl
  · rw [if_neg (by rw [decide_eq_false h]; exact Bool.false_ne_true), if_neg h, List.map_append]; rfl
/-- what is no dict -/
def plainS : Sl → Bool
  | .dc _ _ => false
  | _ => true
theorem noDc_of {l r : List Sl} {s : Sl} {a : Addr} (hl : ∀ t ∈ l, plainS t = true) (hr : ∀ t ∈ r, plainS t = true) : NoDc a l.length (l ++ s :: r) := by
  intro j kvs hj h
  rcases Nat.lt_or_ge j l.length with lt | ge
  · rw [List.getElem?_append_left lt] at h
    have := hl _ (List.mem_of_getElem? h)
    exact nomatch this
  · rw [List.getElem?_append_right ge] at h
    obtain ⟨k, hk⟩ : ∃ k, j - l.length = k + 1 := ⟨j - l.length - 1, by omega⟩
    rw [hk, List.getElem?_cons_succ] at h
    have := hr _ (List.mem_of_getElem? h)
    exact nomatch this
end DL
/-! pieces: their points and sides, each once, as they come -/
namespace Fac
open DL PySem PySem.Spec PyProof.Rows L2 Hull
abbrev Sd := Pt × Pt
def eD (e : Sd) : Dat := .tup [pt e.1, pt e.2]
def pc (q : List Pt) : Dat := .tup (q.map pt)
section
variable {α : Type} [DecidableEq α]
def ins (es : List α) (x : α) : List α := if x ∈ es then es else es ++ [x]
def insA (es xs : List α) : List α := xs.foldl ins es
theorem ins_mem {es : List α} {x y : α} : y ∈ ins es x ↔ y ∈ es ∨ y = x := by
  unfold ins
  split
  · rename_i h
    constructor
    · exact .inl
    · rintro (h1 | rfl)
      · exact h1
      · exact h
  · simp
theorem ins_nd {es : List α} {x : α} (h : es.Nodup) : (ins es x).Nodup := by
  unfold ins
  split
  · exact h
  · rename_i c
    refine List.nodup_append.mpr ⟨h, by simp, fun a ha b hb e => ?_⟩
    rw [List.mem_singleton] at hb
    exact c (by rw [← hb, ← e]; exact ha)
theorem ins_len {es : List α} {x : α} : (ins es x).length ≤ es.length + 1 := by
  unfold ins
  split
  · omega
  · simp
theorem insA_mem {y : α} : ∀ {xs es : List α}, y ∈ insA es xs ↔ y ∈ es ∨ y ∈ xs
  | [], es => by show y ∈ es ↔ _; simp
  | x :: xs, es => by
    show y ∈ insA (ins es x) xs ↔ _
    rw [insA_mem, ins_mem, List.mem_cons]
    constructor
    · rintro ((h | h) | h)
      · exact .inl h
      · exact .inr (.inl h)
      · exact .inr (.inr h)
    · rintro (h | h | h)
      · exact .inl (.inl h)
      · exact .inl (.inr h)
      · exact .inr h
theorem insA_nd : ∀ {xs es : List α}, es.Nodup → (insA es xs).Nodup
  | [], es, h => h
  | x :: xs, es, h => insA_nd (xs := xs) (ins_nd h)
theorem insA_len : ∀ {xs es : List α}, (insA es xs).length ≤ es.length + xs.length
  | [], es => Nat.le_refl _
  | x :: xs, es => by
    have := insA_len (xs := xs) (es := ins es x)
    have := ins_len (es := es) (x := x)
    show (insA (ins es x) xs).length ≤ _
    rw [List.length_cons]
    omega
theorem insA_app (es xs ys : List α) : insA es (xs ++ ys) = insA (insA es xs) ys := List.foldl_append ..
theorem insA_one (es : List α) (x : α) : insA es [x] = ins es x := rfl
theorem nd_same {xs ys : List α} (h1 : xs.Nodup) (h2 : ys.Nodup) (h : ∀ x, x ∈ xs ↔ x ∈ ys) : xs.length = ys.length := ((List.perm_ext_iff_of_nodup h1 h2).mpr h).length_eq
end
/-! the lesser of two points first -/
instance (p q : Pt) : Decidable (LtP p q) := by unfold LtP; infer_instance
def ord2 (x y : Pt) : Sd := if LtP y x then (y, x) else (x, y)
theorem ord2_swap (x y : Pt) : ord2 x y = ord2 y x := by
  unfold ord2
  by_cases e : x = y
  · subst e; rfl
  · rcases ltp_tot e with h | h
    · rw [if_neg (fun z => by unfold LtP at h z; omega), if_pos h]
    · rw [if_pos h, if_neg (fun z => by unfold LtP at h z; omega)]
theorem ltd_pt (x y : Pt) : ltD (pt x) (pt y) = decide (LtP x y) := by rw [ltD_pt]; rfl
theorem min_ord (x y : Pt) : minO (pt x) [pt y] = pt (ord2 x y).1 := by
  show (if ltD (pt y) (pt x) = true then pt y else pt x) = _
  rw [ltd_pt]
  unfold ord2
  by_cases h : LtP y x
  · rw [if_pos (decide_eq_true h), if_pos h]
  · rw [if_neg (by rw [decide_eq_false h]; exact Bool.false_ne_true), if_neg h]
theorem max_ord (x y : Pt) : maxO (pt x) [pt y] = pt (ord2 x y).2 := by
  show (if ltD (pt x) (pt y) = true then pt y else pt x) = _
  rw [ltd_pt]
  unfold ord2
  by_cases h : LtP y x
  · rw [if_neg (by rw [decide_eq_false (fun z => by unfold LtP at h z; omega)]; exact Bool.false_ne_true), if_pos h]
  · rw [if_neg h]
    by_cases c : LtP x y
    · rw [if_pos (decide_eq_true c)]
    · rw [if_neg (by rw [decide_eq_false c]; exact Bool.false_ne_true)]
      have : x = y := Classical.byContradiction fun e => (ltp_tot e).elim c h
      rw [this]
theorem sort_ord (x y : Pt) : sortD [pt x, pt y] = [pt (ord2 x y).1, pt (ord2 x y).2] := by
  obtain ⟨ys, e, pm, so⟩ := kd_pt.sort [x, y]
  have e : sortD [pt x, pt y] = ys.map pt := e
  rw [e]
  have lt : ∀ a b : Pt, kP a < kP b ↔ LtP a b := fun a b => by
    have h := kd_pt.lt a b
    rw [ltd_pt] at h
    exact (decide_eq_decide.mp h).symm
  have two : ys = [x, y] ∨ ys = [y, x] := by
    have l := pm.length_eq
    match ys, l with
    | [a, b], _ =>
      have h1 : a = x ∨ a = y := by simpa using (pm.mem_iff (a := a)).mp (by simp)
      have h2 : b = x ∨ b = y := by simpa using (pm.mem_iff (a := b)).mp (by simp)
      have h3 : x = a ∨ x = b := by simpa using (pm.mem_iff (a := x)).mpr (by simp)
      have h4 : y = a ∨ y = b := by simpa using (pm.mem_iff (a := y)).mpr (by simp)
      rcases h1 with rfl | rfl
      · rcases h2 with rfl | rfl
        · rcases h4 with h4 | h4 <;> subst h4 <;> exact .inl rfl
        · exact .inl rfl
      · rcases h2 with rfl | rfl
        · exact .inr rfl
        · rcases h3 with h3 | h3 <;> subst h3 <;> exact .inl rfl
  unfold ord2
  rcases two with rfl | rfl
  · have so : ¬ kP y < kP x := by simpa using so
    rw [lt] at so
    rw [if_neg so]; rfl
  · have so : ¬ kP x < kP y := by simpa using so
    rw [lt] at so
    by_cases h : LtP y x
    · rw [if_pos h]; rfl
    · have : x = y := Classical.byContradiction fun e => (ltp_tot e).elim so h
      subst this
      rw [if_neg h]; rfl
theorem alk2 (x y : Pt) : AlkOk [pt x, pt y] := kd_pt.alk [x, y]
theorem srt2 (x y : Pt) : SrtOk [pt x, pt y] := kd_pt.srt [x, y]
/-! keys -/
theorem nk_e {a b : Sd} : nkD (eD a) = nkD (eD b) ↔ a = b := by
  constructor
  · intro h
    have h : NestedKey.tup [nkD (pt a.1), nkD (pt a.2)] = NestedKey.tup [nkD (pt b.1), nkD (pt b.2)] := h
    simp only [NestedKey.tup.injEq, List.cons.injEq, and_true] at h
    exact Prod.ext (nk_pt.mp h.1) (nk_pt.mp h.2)
  · rintro rfl; rfl
theorem kOk_pt (n : Nat) (p : Pt) : kOk (n + 1) (pt p) = true := by
  unfold pt
  simp [kOk, kOkL]
theorem key_e (a : Sd) : keyD (.v (eD a)) = some (eD a) := by
  unfold keyD eD pt
  simp [kOk, kOkL]
theorem isKey_pt (p : Pt) : kOk 6 (pt p) = true := kOk_pt 5 p
theorem isKey_e (e : Sd) : kOk 6 (eD e) = true := by
  unfold eD pt
  simp [kOk, kOkL]
def edK (E : List Sd) : List (Dat × V) := E.map fun e => (eD e, V.bl true)
def ptK (P : List Pt) : List (Dat × V) := P.map fun e => (pt e, V.bl true)
theorem hasD_e (v : V) (q : Sd) : ∀ es : List Sd, hasD (es.map fun e => (eD e, v)) (eD q) = decide (q ∈ es)
  | [] => by simp [hasD]
  | e :: es => by
    have ih := hasD_e v q es
    unfold hasD at ih ⊢
    rw [List.map_cons, List.any_cons, ih, Bool.eq_iff_iff]
    simp only [Bool.or_eq_true, decide_eq_true_eq, nk_e, List.mem_cons, eq_comm (a := e)]
theorem put_e (q : Sd) (es : List Sd) : putD (edK es) (eD q) (V.bl true) = edK (ins es q) := by
  unfold putD edK ins
  rw [hasD_e]
  by_cases h : q ∈ es
  · rw [if_pos (decide_eq_true h), if_pos h, List.map_map]
    refine List.map_congr_left fun p _ => ?_
    show (if nkD (eD p) = nkD (eD q) then (eD p, V.bl true) else (eD p, V.bl true)) = _
    split <;> rfl
  · rw [if_neg (by rw [decide_eq_false h]; exact Bool.false_ne_true), if_neg h, List.map_append]; rfl
theorem put_p (q : Pt) (ps : List Pt) : putD (ptK ps) (pt q) (V.bl true) = ptK (ins ps q) := by
  refine (putD_pts (V.bl true) q ps).trans ?_
  unfold ptK ins
  by_cases h : q ∈ ps
  · rw [if_pos h, if_pos h]
  · rw [if_neg h, if_neg h]
theorem edK_len (E : List Sd) : (edK E).length = E.length := List.length_map ..
theorem ptK_len (E : List Pt) : (ptK E).length = E.length := List.length_map ..
/-! no other slot holds the dict -/
def offD (a : Addr) : Sl → Prop
  | .dc b _ => b ≠ a
  | _ => True
theorem al0 {P : Sl → Prop} : ∀ t ∈ ([] : List Sl), P t := fun t h => nomatch h
theorem al {P : Sl → Prop} {s : Sl} {l : List Sl} (h : P s) (g : ∀ t ∈ l, P t) : ∀ t ∈ s :: l, P t := List.forall_mem_cons.mpr ⟨h, g⟩
theorem offD_pl {a : Addr} {s : Sl} (h : plainS s = true) : offD a s := by
  cases s with
  | dc b kvs => exact nomatch h
  | _ => trivial
theorem noDc_off {l r : List Sl} {s : Sl} {a : Addr} (hl : ∀ t ∈ l, offD a t) (hr : ∀ t ∈ r, offD a t) : NoDc a l.length (l ++ s :: r) := by
  intro j kvs hj h
  rcases Nat.lt_or_ge j l.length with lt | ge
  · rw [List.getElem?_append_left lt] at h
    exact hl _ (List.mem_of_getElem? h) rfl
  · rw [List.getElem?_append_right ge] at h
    obtain ⟨k, hk⟩ : ∃ k, j - l.length = k + 1 := ⟨j - l.length - 1, by omega⟩
    rw [hk, List.getElem?_cons_succ] at h
    exact hr _ (List.mem_of_getElem? h) rfl
/-! the sides of a piece -/
def sdK (q : List Pt) (k : Nat) : List Sd := (List.range k).map fun j => ord2 (q.getD j (0, 0)) (q.getD k (0, 0))
def sds (q : List Pt) : List Sd := (List.range q.length).flatMap (sdK q)
theorem sds_len {q : List Pt} (h : q.length ≤ 3) : (sds q).length ≤ 3 := by
  match q, h with
  | [], _ => decide
  | [a], _ => show 0 ≤ 3; decide
  | [a, b], _ => show 1 ≤ 3; decide
  | [a, b, c], _ => show 3 ≤ 3; decide
theorem sds1 (a : Pt) : sds [a] = [] := rfl
theorem sds2 (a b : Pt) : sds [a, b] = [ord2 a b] := rfl
theorem sds3 (a b c : Pt) : sds [a, b, c] = [ord2 a b, ord2 a c, ord2 b c] := rfl
theorem flat_len {α β : Type} (f : α → List β) (n : Nat) : ∀ {xs : List α}, (∀ x ∈ xs, (f x).length ≤ n) → (xs.flatMap f).length ≤ n * xs.length
  | [], _ => Nat.zero_le _
  | x :: xs, h => by
    have h1 := h x List.mem_cons_self
    have h2 := flat_len f n (xs := xs) fun y hy => h y (List.mem_cons_of_mem _ hy)
    rw [List.flatMap_cons, List.length_append, List.length_cons, Nat.mul_add]
    omega
theorem take_flat {α β : Type} (f : α → List β) {xs : List α} {i : Nat} {x : α} (h : xs[i]? = some x) : (xs.take (i + 1)).flatMap f = (xs.take i).flatMap f ++ f x := by
  rw [List.take_add_one, h, List.flatMap_append]
  show _ ++ (f x ++ []) = _
  rw [List.append_nil]
theorem take_mem {α : Type} {xs : List α} {n : Nat} {P : α → Prop} (h : ∀ x ∈ xs, P x) : ∀ x ∈ xs.take n, P x := fun x hx => h x (List.mem_of_mem_take hx)
def three (q : List Pt) : Bool := decide (q.length = 3)
theorem take_cnt {α : Type} (p : α → Bool) {xs : List α} {i : Nat} {x : α} (h : xs[i]? = some x) : (xs.take (i + 1)).countP p = (xs.take i).countP p + if p x = true then 1 else 0 := by
  rw [List.take_add_one, h, List.countP_append]
  show _ + List.countP p [x] = _
  rw [List.countP_cons, List.countP_nil]; omega
end Fac
namespace DL
open PySem PySem.Spec PyProof.Rows L2

/-! ### the law's own end -/
def spLaw (K : PySem.W.Frag) : Sp := fun vs H Q _ => ∃ (a : Addr) (ns : List Int), vs = [.ref a] ∧ SqL K H a (ns.map V.int) ∧ Scr ns ∧ ∀ H', Q (.bl true) H'
theorem law_fn {P : Program} {w : World} {K : PySem.W.Frag} {mg : MG} {base : Heap} {k : Nat} {f : Addr} {fd : FuncData} {S : Fsp} (F : FnOk P w K mg base (L2.CX P w) k f fd ["script"] (spOf K mg [false] S)) (hS : ∀ (ns : List Int) (κ : Rv → Prop) (ε : Str → Prop), Scr ns → κ (.v (.bl true)) → S [.lst (ns.map Dat.int)] κ ε) :
    FnOk P w K mg base (L2.CX P w) k f fd ["script"] (spLaw K) := by
  refine F.imp fun vs H Q E h => ?_
  obtain ⟨a, ns, rfl, hs, hn, q⟩ := h
  refine ⟨fun _ => none, [.lst (ns.map Dat.int)], (fun _ _ e => nomatch e), ⟨_, [], _, [], rfl, rfl, .inr ⟨a, _, _, rfl, rfl, hs, RdL.ints ns⟩, rfl, rfl⟩, fun r => r = .v (.bl true), fun _ => False, hS ns _ _ hn rfl, fun v H' G' r x hr ok e => ?_, fun _ _ _ _ _ _ z => False.elim z⟩
  subst e
  rw [rvB hr]
  exact q H'
theorem bits_bt {z : Int} (h : Builtin.Int.intBits z ≤ 1048576) : Bt 1048577 z := by
  rw [Bt.def]
  unfold Builtin.Int.intBits at h
  split at h
  · rename_i e
    simp only [beq_iff_eq] at e
    rw [e]
    exact Nat.pow_pos (by decide)
  · rename_i e
    have hz : z.natAbs ≠ 0 := fun q => e (by simp only [beq_iff_eq]; omega)
    exact (Nat.log2_lt hz).mp (by omega)
theorem walk_dl {l : PySem.W.OpenLaw} {q : Program} {loose : List Str} {XP : (Str → Option Value) → Heap → Prop} {YP : World → Heap → Prop} {d : DefRec} {K : Params → PySem.W.Frag} {k : Nat} (hr : Room k callerA) (hn : l.most = some 63) (hdf : d.params.defaults = [])
    (hY : ∀ (w : World) (h : Heap), YP w h → (K w.params).In h)
    (F : ∀ (w : World) (mg : Str → Option Value) (fa : Addr) (h : Heap), (K w.params).In h → h.Ns mainGlobals mg → mg d.name = some (.ref fa) →
      ∃ fd : FuncData, (∀ (s : Shared) (u : Value), BindsTo s fd ⟨[u], []⟩ [("script", u)]) ∧ ∀ base : Heap, (K w.params).In base → base.Ns mainGlobals mg → FnOk l.prog w (K w.params) mg base (L2.CX l.prog w) k fa fd ["script"] (spLaw (K w.params))) :
    PySem.W.WalkO q loose XP YP l.row.toRowW d [] (fun f vs => PySem.call f vs) :=
  L2.walk_ofB (n := 63) (k := k) (x := "script") (CX := fun w => L2.CX l.prog w) (sp := fun w => spLaw (K w.params)) hn (by decide) hdf hr hY F (fun w H a ns hl hb _ hS => ⟨a, ns, rfl, hS, ⟨hl, fun z hz => bits_bt (hb z hz)⟩, fun _ => rfl⟩) fun _ _ _ _ _ z => by
    obtain ⟨_, _, _, _, _, _, _, _, _, _, _, _, e⟩ := z
    exact e
end DL
namespace Py
open PySem PySem.Spec PyProof.Rows L2 DL
def topS (i : Nat) : Stmt := PySem.Challenge.pw_stakefield_k28_faces.main.body.getD i (.Pass ⟨0, 0, 0, 0⟩)
structure Bs (mg : MG) : Prop where
  bool_ : mg "bool" = none
  int_ : mg "int" = none
  isinstance_ : mg "isinstance" = none
  len_ : mg "len" = none
  list_ : mg "list" = none
  max_ : mg "max" = none
  min_ : mg "min" = none
  range_ : mg "range" = none
  set_ : mg "set" = none
  sorted_ : mg "sorted" = none
  tuple_ : mg "tuple" = none
/-! ### faces -/
abbrev s_faces : Stmt := topS 1
theorem sc_faces : FnScope ["some", "spots", "sides", "threes", "piece", "k", "j"] ["some"] (defScope s_faces) := ⟨rfl, rfl, rfl, by decide +kernel, rfl, by decide +kernel, by decide +kernel⟩
abbrev ms_faces : List Bool := [false]
def b_faces_1 : DS :=
  sDcPut 2 (dC (.bl true)) (dTup (aCons (dB (kMm2 minO) (aCons (dIx (dVar 4) (dVar 6)) (aCons (dIx (dVar 4) (dVar 5)) (aNil)))) (aCons (dB (kMm2 maxO) (aCons (dIx (dVar 4) (dVar 6)) (aCons (dIx (dVar 4) (dVar 5)) (aNil)))) (aNil))))
def b_faces_2 : DS :=
  sSeq (sDcPut 1 (dC (.bl true)) (dIx (dVar 4) (dVar 5)))
  (sFor (iRng1 (dVar 5)) (gN 6) b_faces_1)
def b_faces_3 : DS :=
  sSeq (sFor (iRng1 (dB kLen (aCons (dVar 4) (aNil)))) (gN 5) b_faces_2)
  (sIf (tVal (dEq (dB kLen (aCons (dVar 4) (aNil))) (dC (.int 3))))
  (sAug 3 (dC (.int 1)) (kI0 fun i j => .int (i + j)))
  (sNil))
def t_faces_4 : DS :=
  sRet (dTup (aCons (dDcLen 1) (aCons (dDcLen 2) (aCons (dVar 3) (aNil)))))
def t_faces_3 : DS :=
  sSeq (sFor (iLst false (dVar 0)) (gN 4) b_faces_3)
  t_faces_4
def t_faces_2 : DS :=
  sSeq (sAsg (dC (.int 0)) (gN 3))
  t_faces_3
def t_faces_1 : DS :=
  sSeq (sDcNew 2)
  t_faces_2
def d_faces : DS :=
  sSeq (sDcNew 1)
  t_faces_1
theorem ok_faces {P : Program} {w : World} {K : PySem.W.Frag} {mg : MG} {base : Heap} {f : Addr} {fd : FuncData}  {S : Fsp} (F : Fun K "faces" "faces" s_faces f fd) (hm : mg "faces" = some (.ref f)) (bb : Binds K fd ["some"] []) (B : Bs mg) 
    (sem : ∀ ds κ ε, S ds κ ε → d_faces  (endsOf κ ε) (entry ms_faces 7 ds)) : Cal P w K mg base 1 "faces" ["some"] ms_faces S :=
  ⟨f, fd, fn_dl (k := 0) F sc_faces rfl (fun cdv A outer s H E C => mss_cons (ms_dcnew 1 C.nd)
  (mss_cons (ms_dcnew 2 C.nd)
  (mss_cons (ms_set 3 C.nd (me_int))
  (mss_cons (ms_for C (mi_list (me_var 0)) (mg_name 4 C.nd)
  (mss_cons (ms_for C (mi_rng1 B.range_ (me_len B.len_ (ma_cons (me_var 4) (ma_nil)))) (mg_name 5 C.nd)
  (mss_cons (ms_dcput 1 C.hr.units (me_bl) (me_ix (me_var 4) (me_var 5)))
  (mss_one (ms_for C (mi_rng1 B.range_ (me_var 5)) (mg_name 6 C.nd)
  (mss_one (ms_dcput 2 C.hr.units (me_bl) (me_tup (ma_cons (me_min2D C B.min_ (ma_cons (me_ix (me_var 4) (me_var 6)) (ma_cons (me_ix (me_var 4) (me_var 5)) (ma_nil)))) (ma_cons (me_max2D C B.max_ (ma_cons (me_ix (me_var 4) (me_var 6)) (ma_cons (me_ix (me_var 4) (me_var 5)) (ma_nil)))) (ma_nil))))))))))
  (mss_one (ms_if (mt_eq C.hr.units (me_len B.len_ (ma_cons (me_var 4) (ma_nil))) (me_int))
  (mss_one (ms_augI 3 C.nd (me_int)))
  (mss_nil)))))
  (mss_one (ms_ret (me_tup (ma_cons (me_dclen 1 B.len_) (ma_cons (me_dclen 2 B.len_) (ma_cons (me_var 3) (ma_nil))))))))))) sem, hm, F.kp, bb⟩
/-! ### _law_cell_at -/
abbrev s_L_cell_at : Stmt := topS 3
theorem sc_L_cell_at : FnScope ["script", "k"] ["script", "k"] (defScope s_L_cell_at) := ⟨rfl, rfl, rfl, by decide +kernel, rfl, by decide +kernel, by decide +kernel⟩
abbrev ms_L_cell_at : List Bool := [false, false]
def t_L_cell_at_1 : DS :=
  sRet (dC (.int 0))
def d_L_cell_at : DS :=
  sSeq (sIf (tVal (dLt (dVar 1) (dB kLen (aCons (dVar 0) (aNil)))))
  (sRet (dIx (dVar 0) (dVar 1)))
  (sNil))
  t_L_cell_at_1
theorem ok_L_cell_at {P : Program} {w : World} {K : PySem.W.Frag} {mg : MG} {base : Heap} {f : Addr} {fd : FuncData}  {S : Fsp} (F : Fun K "_law_cell_at" "_law_cell_at" s_L_cell_at f fd) (hm : mg "_law_cell_at" = some (.ref f)) (bb : Binds K fd ["script", "k"] []) (B : Bs mg) 
    (sem : ∀ ds κ ε, S ds κ ε → d_L_cell_at  (endsOf κ ε) (entry ms_L_cell_at 2 ds)) : Cal P w K mg base 1 "_law_cell_at" ["script", "k"] ms_L_cell_at S :=
  ⟨f, fd, fn_dl (k := 0) F sc_L_cell_at rfl (fun cdv A outer s H E C => mss_cons (ms_if (mt_lt (me_var 1) (me_len B.len_ (ma_cons (me_var 0) (ma_nil))))
  (mss_one (ms_ret (me_ix (me_var 0) (me_var 1))))
  (mss_nil))
  (mss_one (ms_ret (me_int)))) sem, hm, F.kp, bb⟩
/-! ### _law_whole -/
abbrev s_L_whole : Stmt := topS 4
theorem sc_L_whole : FnScope ["found"] ["found"] (defScope s_L_whole) := ⟨rfl, rfl, rfl, by decide +kernel, rfl, by decide +kernel, by decide +kernel⟩
abbrev ms_L_whole : List Bool := [false]
def d_L_whole : DS :=
  sRet (dAnd (dIsi .int (dVar 0)) (dNot (dIsi .bool (dVar 0))))
theorem ok_L_whole {P : Program} {w : World} {K : PySem.W.Frag} {mg : MG} {base : Heap} {f : Addr} {fd : FuncData}  {S : Fsp} (F : Fun K "_law_whole" "_law_whole" s_L_whole f fd) (hm : mg "_law_whole" = some (.ref f)) (bb : Binds K fd ["found"] []) (B : Bs mg) 
    (sem : ∀ ds κ ε, S ds κ ε → d_L_whole  (endsOf κ ε) (entry ms_L_whole 1 ds)) : Cal P w K mg base 1 "_law_whole" ["found"] ms_L_whole S :=
  ⟨f, fd, fn_dl (k := 0) F sc_L_whole rfl (fun cdv A outer s H E C => mss_one (ms_ret (me_and (me_isi .int (by decide +kernel) B.isinstance_ B.int_ (me_var 0)) (me_one (me_not (me_isi .bool (by decide +kernel) B.isinstance_ B.bool_ (me_var 0))))))) sem, hm, F.kp, bb⟩
/-! ### _law_piece -/
abbrev s_L_piece : Stmt := topS 5
theorem sc_L_piece : FnScope ["cell", "by", "start", "ways", "x", "y", "one", "two", "some", "spot"] ["cell", "by", "start"] (defScope s_L_piece) := ⟨rfl, rfl, rfl, by decide +kernel, rfl, by decide +kernel, by decide +kernel⟩
abbrev ms_L_piece : List Bool := [false, false, false]
def b_L_piece_1 : DE :=
  dTup (aCons (dAdd (dVar 2) (dMul (dVar 1) (dIx (dVar 9) (dC (.int 0))))) (aCons (dSub (dMul (dVar 1) (dIx (dVar 9) (dC (.int 1)))) (dVar 2)) (aNil)))
def t_L_piece_6 : DS :=
  sRet (dB kTuple (aCons (dLc (iLst true (dCut (dVar 8) (oNone) (oSome (dAdd (dC (.int 1)) (dModP (dVar 0) (dC (.int 3))))))) (gN 9) tYesD b_L_piece_1 [9]) (aNil)))
def t_L_piece_5 : DS :=
  sSeq (sAsg (dLst (aCons (dTup (aCons (dVar 4) (aCons (dVar 5) (aNil)))) (aCons (dTup (aCons (dPlus (dVar 4) (dIx (dVar 6) (dC (.int 0)))) (aCons (dPlus (dVar 5) (dIx (dVar 6) (dC (.int 1)))) (aNil)))) (aCons (dTup (aCons (dPlus (dVar 4) (dIx (dVar 7) (dC (.int 0)))) (aCons (dPlus (dVar 5) (dIx (dVar 7) (dC (.int 1)))) (aNil)))) (aNil))))) (gN 8))
  t_L_piece_6
def t_L_piece_4 : DS :=
  sSeq (sAsg (dIx (dVar 3) (dModP (dAdd (dAdd (dModP (dDivP (dVar 0) (dC (.int 60))) (dC (.int 7))) (dC (.int 1))) (dModP (dDivP (dVar 0) (dC (.int 420))) (dC (.int 6)))) (dC (.int 7)))) (gN 7))
  t_L_piece_5
def t_L_piece_3 : DS :=
  sSeq (sAsg (dIx (dVar 3) (dModP (dDivP (dVar 0) (dC (.int 60))) (dC (.int 7)))) (gN 6))
  t_L_piece_4
def t_L_piece_2 : DS :=
  sSeq (sAsg (dModP (dDivP (dVar 0) (dC (.int 15))) (dC (.int 4))) (gN 5))
  t_L_piece_3
def t_L_piece_1 : DS :=
  sSeq (sAsg (dModP (dDivP (dVar 0) (dC (.int 3))) (dC (.int 5))) (gN 4))
  t_L_piece_2
def d_L_piece : DS :=
  sSeq (sAsg (dLst (aCons (dTup (aCons (dC (.int 1)) (aCons (dC (.int 0)) (aNil)))) (aCons (dTup (aCons (dC (.int 0)) (aCons (dC (.int 1)) (aNil)))) (aCons (dTup (aCons (dC (.int 1)) (aCons (dC (.int 1)) (aNil)))) (aCons (dTup (aCons (dNeg (dC (.int 1))) (aCons (dC (.int 1)) (aNil)))) (aCons (dTup (aCons (dC (.int 2)) (aCons (dNeg (dC (.int 1))) (aNil)))) (aCons (dTup (aCons (dNeg (dC (.int 1))) (aCons (dNeg (dC (.int 2))) (aNil)))) (aCons (dTup (aCons (dNeg (dC (.int 1))) (aCons (dC (.int 0)) (aNil)))) (aNil))))))))) (gN 3))
  t_L_piece_1
theorem ok_L_piece {P : Program} {w : World} {K : PySem.W.Frag} {mg : MG} {base : Heap} {f : Addr} {fd : FuncData}  {S : Fsp} (F : Fun K "_law_piece" "_law_piece" s_L_piece f fd) (hm : mg "_law_piece" = some (.ref f)) (bb : Binds K fd ["cell", "by", "start"] []) (B : Bs mg) 
    (sem : ∀ ds κ ε, S ds κ ε → d_L_piece  (endsOf κ ε) (entry ms_L_piece 10 ds)) : Cal P w K mg base 1 "_law_piece" ["cell", "by", "start"] ms_L_piece S :=
  ⟨f, fd, fn_dl (k := 0) F sc_L_piece rfl (fun cdv A outer s H E C => mss_cons (ms_set 3 C.nd (me_lst (ma_cons (me_tup (ma_cons (me_int) (ma_cons (me_int) (ma_nil)))) (ma_cons (me_tup (ma_cons (me_int) (ma_cons (me_int) (ma_nil)))) (ma_cons (me_tup (ma_cons (me_int) (ma_cons (me_int) (ma_nil)))) (ma_cons (me_tup (ma_cons (me_neg (me_int)) (ma_cons (me_int) (ma_nil)))) (ma_cons (me_tup (ma_cons (me_int) (ma_cons (me_neg (me_int)) (ma_nil)))) (ma_cons (me_tup (ma_cons (me_neg (me_int)) (ma_cons (me_neg (me_int)) (ma_nil)))) (ma_cons (me_tup (ma_cons (me_neg (me_int)) (ma_cons (me_int) (ma_nil)))) (ma_nil))))))))))
  (mss_cons (ms_set 4 C.nd (me_modP (me_divP (me_var 0) (me_int)) (me_int)))
  (mss_cons (ms_set 5 C.nd (me_modP (me_divP (me_var 0) (me_int)) (me_int)))
  (mss_cons (ms_set 6 C.nd (me_ix (me_var 3) (me_modP (me_divP (me_var 0) (me_int)) (me_int))))
  (mss_cons (ms_set 7 C.nd (me_ix (me_var 3) (me_modP (me_add (me_add (me_modP (me_divP (me_var 0) (me_int)) (me_int)) (me_int)) (me_modP (me_divP (me_var 0) (me_int)) (me_int))) (me_int))))
  (mss_cons (ms_set 8 C.nd (me_lst (ma_cons (me_tup (ma_cons (me_var 4) (ma_cons (me_var 5) (ma_nil)))) (ma_cons (me_tup (ma_cons (me_plus (me_var 4) (me_ix (me_var 6) (me_int))) (ma_cons (me_plus (me_var 5) (me_ix (me_var 6) (me_int))) (ma_nil)))) (ma_cons (me_tup (ma_cons (me_plus (me_var 4) (me_ix (me_var 7) (me_int))) (ma_cons (me_plus (me_var 5) (me_ix (me_var 7) (me_int))) (ma_nil)))) (ma_nil))))))
  (mss_one (ms_ret (me_tuple B.tuple_ (ma_cons (me_lc (own := [("spot", 9)]) C (mi_list (me_cut (me_var 8) (mo_none) (mo_some (me_add (me_int) (me_modP (me_var 0) (me_int)))))) (blkOk_by (N := ["cell", "by", "start", "ways", "x", "y", "one", "two", "some", "spot"]) (sc := defScope s_L_piece) (by decide +kernel)) (fun _ => mg_name 9 (C).blk.nd) (fun _ => mts_nil) (fun _ => me_tup (ma_cons (me_add (me_var 2) (me_mul (me_var 1) (me_ix (me_var 9) (me_int)))) (ma_cons (me_sub (me_mul (me_var 1) (me_ix (me_var 9) (me_int))) (me_var 2)) (ma_nil))))) (ma_nil))))))))))) sem, hm, F.kp, bb⟩
/-! ### _law_due -/
abbrev s_L_due : Stmt := topS 6
theorem sc_L_due : FnScope ["some", "spots", "sides", "threes", "piece"] ["some"] (defScope s_L_due) := ⟨rfl, rfl, rfl, by decide +kernel, rfl, by decide +kernel, by decide +kernel⟩
abbrev ms_L_due : List Bool := [false]
def b_L_due_1 : DS :=
  sSeq (sAsg (dCat (dVar 1) (dB kList (aCons (dVar 4) (aNil)))) (gN 1))
  (sSeq (sIf (tVal (dGt (dB kLen (aCons (dVar 4) (aNil))) (dC (.int 1))))
  (sApp 2 (dB kTuple (aCons (dSortedT (dCut (dVar 4) (oNone) (oSome (dC (.int 2))))) (aNil))))
  (sNil))
  (sIf (tVal (dEq (dB kLen (aCons (dVar 4) (aNil))) (dC (.int 3))))
  (sSeq (sApp 2 (dB kTuple (aCons (dSortedT (dCut (dVar 4) (oSome (dC (.int 1))) (oNone))) (aNil))))
  (sSeq (sApp 2 (dB kTuple (aCons (dSorted (dLst (aCons (dIx (dVar 4) (dC (.int 2))) (aCons (dIx (dVar 4) (dC (.int 0))) (aNil))))) (aNil))))
  (sAsg (dAdd (dVar 3) (dC (.int 1))) (gN 3))))
  (sNil)))
def t_L_due_4 : DS :=
  sRet (dTup (aCons (dLenKeys (dVar 1)) (aCons (dLenKeys (dVar 2)) (aCons (dVar 3) (aNil)))))
def t_L_due_3 : DS :=
  sSeq (sFor (iLst false (dVar 0)) (gN 4) b_L_due_1)
  t_L_due_4
def t_L_due_2 : DS :=
  sSeq (sAsg (dC (.int 0)) (gN 3))
  t_L_due_3
def t_L_due_1 : DS :=
  sSeq (sAsg (dLst (aNil)) (gN 2))
  t_L_due_2
def d_L_due : DS :=
  sSeq (sAsg (dLst (aNil)) (gN 1))
  t_L_due_1
theorem ok_L_due {P : Program} {w : World} {K : PySem.W.Frag} {mg : MG} {base : Heap} {f : Addr} {fd : FuncData}  {S : Fsp} (F : Fun K "_law_due" "_law_due" s_L_due f fd) (hm : mg "_law_due" = some (.ref f)) (bb : Binds K fd ["some"] []) (B : Bs mg) 
    (sem : ∀ ds κ ε, S ds κ ε → d_L_due  (endsOf κ ε) (entry ms_L_due 5 ds)) : Cal P w K mg base 1 "_law_due" ["some"] ms_L_due S :=
  ⟨f, fd, fn_dl (k := 0) F sc_L_due rfl (fun cdv A outer s H E C => mss_cons (ms_set 1 C.nd (me_lst (ma_nil)))
  (mss_cons (ms_set 2 C.nd (me_lst (ma_nil)))
  (mss_cons (ms_set 3 C.nd (me_int))
  (mss_cons (ms_for C (mi_list (me_var 0)) (mg_name 4 C.nd)
  (mss_cons (ms_set 1 C.nd (me_cat (me_var 1) (me_list B.list_ (ma_cons (me_var 4) (ma_nil)))))
  (mss_cons (ms_if (mt_gt (me_len B.len_ (ma_cons (me_var 4) (ma_nil))) (me_int))
  (mss_one (ms_app 2 (me_tuple B.tuple_ (ma_cons (me_sortedT C B.sorted_ (me_cut (me_var 4) (mo_none) (mo_some (me_int)))) (ma_nil)))))
  (mss_nil))
  (mss_one (ms_if (mt_eq C.hr.units (me_len B.len_ (ma_cons (me_var 4) (ma_nil))) (me_int))
  (mss_cons (ms_app 2 (me_tuple B.tuple_ (ma_cons (me_sortedT C B.sorted_ (me_cut (me_var 4) (mo_some (me_int)) (mo_none))) (ma_nil))))
  (mss_cons (ms_app 2 (me_tuple B.tuple_ (ma_cons (me_sorted C B.sorted_ (me_lst (ma_cons (me_ix (me_var 4) (me_int)) (ma_cons (me_ix (me_var 4) (me_int)) (ma_nil))))) (ma_nil))))
  (mss_one (ms_set 3 C.nd (me_add (me_var 3) (me_int))))))
  (mss_nil))))))
  (mss_one (ms_ret (me_tup (ma_cons (me_lenKeys C B.len_ B.set_ (me_var 1)) (ma_cons (me_lenKeys C B.len_ B.set_ (me_var 2)) (ma_cons (me_var 3) (ma_nil))))))))))) sem, hm, F.kp, bb⟩
/-! ### law -/
abbrev s_law : Stmt := topS 7
theorem sc_law : FnScope ["script", "by", "start", "some", "cell", "handed", "found", "number"] ["script"] (defScope s_law) := ⟨rfl, rfl, rfl, by decide +kernel, rfl, by decide +kernel, by decide +kernel⟩
abbrev ms_law : List Bool := [false]
def b_law_1 (S_L_piece : Fsp) : DE :=
  dCall ms_L_piece S_L_piece (aCons (dVar 4) (aCons (dVar 1) (aCons (dVar 2) (aNil))))
def b_law_2 (S_L_whole : Fsp) : DS :=
  sIf (tNotD (tVal (dCall ms_L_whole S_L_whole (aCons (dVar 7) (aNil)))))
  (sRet (dC (.bl false)))
  (sNil)
def t_law_7 (S_L_cell_at : Fsp) (S_L_piece : Fsp) (S_faces : Fsp) (S_L_whole : Fsp) (S_L_due : Fsp) : DS :=
  sRet (dEq (dVar 6) (dCall ms_L_due S_L_due (aCons (dVar 3) (aNil))))
def t_law_6 (S_L_cell_at : Fsp) (S_L_piece : Fsp) (S_faces : Fsp) (S_L_whole : Fsp) (S_L_due : Fsp) : DS :=
  sSeq (sFrz 6 (sFor (iLst false (dVar 6)) (gN 7) (b_law_2 S_L_whole)))
  (t_law_7 S_L_cell_at S_L_piece S_faces S_L_whole S_L_due)
def t_law_5 (S_L_cell_at : Fsp) (S_L_piece : Fsp) (S_faces : Fsp) (S_L_whole : Fsp) (S_L_due : Fsp) : DS :=
  sSeq (sIf (tOrD (tNotD (tVal (dIsi .tuple (dVar 6)))) (tOrD (tVal (dNe (dB kLen (aCons (dVar 6) (aNil))) (dC (.int 3)))) (tVal (dNe (dVar 5) (dVar 3)))))
  (sRet (dC (.bl false)))
  (sNil))
  (t_law_6 S_L_cell_at S_L_piece S_faces S_L_whole S_L_due)
def t_law_4 (S_L_cell_at : Fsp) (S_L_piece : Fsp) (S_faces : Fsp) (S_L_whole : Fsp) (S_L_due : Fsp) : DS :=
  sSeq (sAsg (dCall ms_faces S_faces (aCons (dVar 5) (aNil))) (gN 6))
  (t_law_5 S_L_cell_at S_L_piece S_faces S_L_whole S_L_due)
def t_law_3 (S_L_cell_at : Fsp) (S_L_piece : Fsp) (S_faces : Fsp) (S_L_whole : Fsp) (S_L_due : Fsp) : DS :=
  sSeq (sAsg (dB kList (aCons (dVar 3) (aNil))) (gN 5))
  (t_law_4 S_L_cell_at S_L_piece S_faces S_L_whole S_L_due)
def t_law_2 (S_L_cell_at : Fsp) (S_L_piece : Fsp) (S_faces : Fsp) (S_L_whole : Fsp) (S_L_due : Fsp) : DS :=
  sSeq (sAsg (dLc (iLst true (dCut (dVar 0) (oSome (dC (.int 2))) (oSome (dC (.int 60))))) (gN 4) tYesD (b_law_1 S_L_piece) [4]) (gN 3))
  (t_law_3 S_L_cell_at S_L_piece S_faces S_L_whole S_L_due)
def t_law_1 (S_L_cell_at : Fsp) (S_L_piece : Fsp) (S_faces : Fsp) (S_L_whole : Fsp) (S_L_due : Fsp) : DS :=
  sSeq (sAsg (dSub (dModP (dCall ms_L_cell_at S_L_cell_at (aCons (dVar 0) (aCons (dC (.int 1)) (aNil)))) (dAdd (dMul (dC (.int 2)) (dPow (dC (.int 10)) (dC (.int 40)))) (dC (.int 1)))) (dPow (dC (.int 10)) (dC (.int 40)))) (gN 2))
  (t_law_2 S_L_cell_at S_L_piece S_faces S_L_whole S_L_due)
def d_law (S_L_cell_at : Fsp) (S_L_piece : Fsp) (S_faces : Fsp) (S_L_whole : Fsp) (S_L_due : Fsp) : DS :=
  sSeq (sAsg (dAdd (dC (.int 1)) (dMul (dModP (dCall ms_L_cell_at S_L_cell_at (aCons (dVar 0) (aCons (dC (.int 0)) (aNil)))) (dC (.int 2))) (dPow (dC (.int 10)) (dC (.int 30))))) (gN 1))
  (t_law_1 S_L_cell_at S_L_piece S_faces S_L_whole S_L_due)
theorem ok_law {P : Program} {w : World} {K : PySem.W.Frag} {mg : MG} {base : Heap} {f : Addr} {fd : FuncData} {S_L_cell_at : Fsp} {S_L_piece : Fsp} {S_faces : Fsp} {S_L_whole : Fsp} {S_L_due : Fsp} {S : Fsp} (F : Fun K "law" "law" s_law f fd) (hm : mg "law" = some (.ref f)) (bb : Binds K fd ["script"] []) (B : Bs mg) (F_L_cell_at : Cal P w K mg base 1 "_law_cell_at" ["script", "k"] ms_L_cell_at S_L_cell_at) (F_L_piece : Cal P w K mg base 1 "_law_piece" ["cell", "by", "start"] ms_L_piece S_L_piece) (F_faces : Cal P w K mg base 1 "faces" ["some"] ms_faces S_faces) (F_L_whole : Cal P w K mg base 1 "_law_whole" ["found"] ms_L_whole S_L_whole) (F_L_due : Cal P w K mg base 1 "_law_due" ["some"] ms_L_due S_L_due)
    (sem : ∀ ds κ ε, S ds κ ε → d_law S_L_cell_at S_L_piece S_faces S_L_whole S_L_due (endsOf κ ε) (entry ms_law 8 ds)) : Cal P w K mg base 2 "law" ["script"] ms_law S :=
  ⟨f, fd, fn_dl (k := 1) F sc_law rfl (fun cdv A outer s H E C => mss_cons (ms_set 1 C.nd (me_add (me_int) (me_mul (me_modP (me_callC C F_L_cell_at (ma_cons (me_var 0) (ma_cons (me_int) (ma_nil)))) (me_int)) (me_pow (me_int) (me_int)))))
  (mss_cons (ms_set 2 C.nd (me_sub (me_modP (me_callC C F_L_cell_at (ma_cons (me_var 0) (ma_cons (me_int) (ma_nil)))) (me_add (me_mul (me_int) (me_pow (me_int) (me_int))) (me_int))) (me_pow (me_int) (me_int))))
  (mss_cons (ms_setLc (own := [("cell", 4)]) 3 C (mi_list (me_cut (me_var 0) (mo_some (me_int)) (mo_some (me_int)))) (blkOk_by (N := ["script", "by", "start", "some", "cell", "handed", "found", "number"]) (sc := defScope s_law) (by decide +kernel)) (fun _ => mg_name 4 (C).blk.nd) (fun _ => mts_nil) (fun _ => me_callC (C).blk F_L_piece (ma_cons (me_var 4) (ma_cons (me_var 1) (ma_cons (me_var 2) (ma_nil))))) (sw_true rfl rfl rfl (by decide +kernel)))
  (mss_cons (ms_set 5 C.nd (me_list B.list_ (ma_cons (me_var 3) (ma_nil))))
  (mss_cons (ms_set 6 C.nd (me_callC C F_faces (ma_cons (me_var 5) (ma_nil))))
  (mss_cons (ms_if (MW.mt (mw_or (mt_not (mt_val (me_isi .tuple (by decide +kernel) B.isinstance_ B.tuple_ (me_var 6)))) (mw_or (mt_ne C.hr.units (me_len B.len_ (ma_cons (me_var 6) (ma_nil))) (me_int)) (mw_or1 (mt_ne C.hr.units (me_var 5) (me_var 3))))))
  (mss_one (ms_ret (me_bl)))
  (mss_nil))
  (mss_cons (ms_frz 6 (ms_for C (mi_list (me_var 6)) (mg_name 7 C.nd)
  (mss_one (ms_if (mt_not (mt_val (me_callC C F_L_whole (ma_cons (me_var 7) (ma_nil)))))
  (mss_one (ms_ret (me_bl)))
  (mss_nil)))))
  (mss_one (ms_ret (me_eq C.hr.units (me_var 6) (me_callC C F_L_due (ma_cons (me_var 3) (ma_nil))))))))))))) sem, hm, F.kp, bb⟩
theorem fn_law {P : Program} {w : World} {K : PySem.W.Frag} {mg : MG} {base : Heap} {f : Addr} {fd : FuncData} {S_L_cell_at : Fsp} {S_L_piece : Fsp} {S_faces : Fsp} {S_L_whole : Fsp} {S_L_due : Fsp} {S : Fsp} (F : Fun K "law" "law" s_law f fd) (B : Bs mg) (F_L_cell_at : Cal P w K mg base 1 "_law_cell_at" ["script", "k"] ms_L_cell_at S_L_cell_at) (F_L_piece : Cal P w K mg base 1 "_law_piece" ["cell", "by", "start"] ms_L_piece S_L_piece) (F_faces : Cal P w K mg base 1 "faces" ["some"] ms_faces S_faces) (F_L_whole : Cal P w K mg base 1 "_law_whole" ["found"] ms_L_whole S_L_whole) (F_L_due : Cal P w K mg base 1 "_law_due" ["some"] ms_L_due S_L_due)
    (sem : ∀ ds κ ε, S ds κ ε → d_law S_L_cell_at S_L_piece S_faces S_L_whole S_L_due (endsOf κ ε) (entry ms_law 8 ds)) : FnOk P w K mg base (L2.CX P w) 2 f fd ["script"] (spOf K mg ms_law S) :=
  fn_dl (k := 1) F sc_law rfl (fun cdv A outer s H E C => mss_cons (ms_set 1 C.nd (me_add (me_int) (me_mul (me_modP (me_callC C F_L_cell_at (ma_cons (me_var 0) (ma_cons (me_int) (ma_nil)))) (me_int)) (me_pow (me_int) (me_int)))))
  (mss_cons (ms_set 2 C.nd (me_sub (me_modP (me_callC C F_L_cell_at (ma_cons (me_var 0) (ma_cons (me_int) (ma_nil)))) (me_add (me_mul (me_int) (me_pow (me_int) (me_int))) (me_int))) (me_pow (me_int) (me_int))))
  (mss_cons (ms_setLc (own := [("cell", 4)]) 3 C (mi_list (me_cut (me_var 0) (mo_some (me_int)) (mo_some (me_int)))) (blkOk_by (N := ["script", "by", "start", "some", "cell", "handed", "found", "number"]) (sc := defScope s_law) (by decide +kernel)) (fun _ => mg_name 4 (C).blk.nd) (fun _ => mts_nil) (fun _ => me_callC (C).blk F_L_piece (ma_cons (me_var 4) (ma_cons (me_var 1) (ma_cons (me_var 2) (ma_nil))))) (sw_true rfl rfl rfl (by decide +kernel)))
  (mss_cons (ms_set 5 C.nd (me_list B.list_ (ma_cons (me_var 3) (ma_nil))))
  (mss_cons (ms_set 6 C.nd (me_callC C F_faces (ma_cons (me_var 5) (ma_nil))))
  (mss_cons (ms_if (MW.mt (mw_or (mt_not (mt_val (me_isi .tuple (by decide +kernel) B.isinstance_ B.tuple_ (me_var 6)))) (mw_or (mt_ne C.hr.units (me_len B.len_ (ma_cons (me_var 6) (ma_nil))) (me_int)) (mw_or1 (mt_ne C.hr.units (me_var 5) (me_var 3))))))
  (mss_one (ms_ret (me_bl)))
  (mss_nil))
  (mss_cons (ms_frz 6 (ms_for C (mi_list (me_var 6)) (mg_name 7 C.nd)
  (mss_one (ms_if (mt_not (mt_val (me_callC C F_L_whole (ma_cons (me_var 7) (ma_nil)))))
  (mss_one (ms_ret (me_bl)))
  (mss_nil)))))
  (mss_one (ms_ret (me_eq C.hr.units (me_var 6) (me_callC C F_L_due (ma_cons (me_var 3) (ma_nil))))))))))))) sem
end Py
local macro_rules | `(tactic| walk_at "bt") => `(tactic| first
  | assumption
  | ((with_reducible apply DL.Bt.add) <;> walk_at "bt")
  | ((with_reducible apply DL.Bt.sub) <;> walk_at "bt")
  | ((with_reducible apply DL.Bt.mul) <;> walk_at "bt")
  | ((with_reducible apply DL.Bt.neg) <;> walk_at "bt")
  | with_reducible exact DL.Bt.emod' (by decide +kernel)
  | ((with_reducible apply DL.Bt.ediv) <;> walk_at "bt")
  | ((with_reducible apply DL.Bt.ite) <;> walk_at "bt")
  | ((with_reducible apply DL.BP.x) <;> assumption)
  | ((with_reducible apply DL.BP.y) <;> assumption)
  | with_reducible exact DL.Bt.any)
local macro_rules | `(tactic| walk_at "btl") => `(tactic| ((apply DL.Bt.le); (focus (walk_at "bt")); decide +kernel))
local macro_rules | `(tactic| walk_at "side") => `(tactic| first
  | with_reducible exact rfl
  | ((with_reducible apply DL.modp_lit); decide +kernel)
  | ((with_reducible apply DL.divp_lit); decide +kernel)
  | ((with_reducible apply DL.cpow_lit); decide +kernel)
  | ((with_reducible apply DL.mulok); (focus (walk_at "bt")); (focus (walk_at "bt")); decide +kernel)
  | with_reducible exact DL.Cls.modp (by assumption)
  | with_reducible exact DL.Cls.rng (by assumption)
  | exact ⟨rfl, rfl⟩
  | exact rfl)
local macro_rules | `(tactic| walk_at "go") => `(tactic| repeat (refine ⟨by walk_at "side", ?_⟩))
local macro_rules | `(tactic| walk_at "st1") => `(tactic| first
  | refine ⟨by walk_at "side", ?_⟩
  | refine DL.ifF rfl ?_
  | refine DL.ifT rfl ?_
  | (refine DL.Cls.ix ?_ _ ?_; assumption; intro _ _)
  | (refine DL.S_num_go ?_ ?_; (focus (walk_at "btl")); intro _ _)
  | walk_at "call")
local macro_rules | `(tactic| walk_at "st") => `(tactic| repeat (walk_at "st1"))
local macro_rules | `(tactic| walk_at "br") => `(tactic| repeat' (first | walk_at "st1" | refine DL.ifb (fun _ => ?_) (fun _ => ?_)))
local macro_rules | `(tactic| walk_at "ite") => `(tactic| ((repeat' split) <;> omega))
local macro_rules | `(tactic| walk_at "rng3") => `(tactic| (refine ⟨DL.rN _ _ _, DL.rgC_up ?_ ?_ ?_ ?_ ?_ ?_, ?_⟩; decide; decide; (focus (walk_at "ite")); (focus (walk_at "ite")); decide; decide))
local macro_rules | `(tactic| walk_at "nz") => `(tactic| dsimp only [List.set_cons_succ, List.set_cons_zero])
local macro_rules | `(tactic| walk_at "w") => `(tactic| conv => whnf)
local macro_rules | `(tactic| walk_at "lp") => `(tactic| (walk_at "w"; refine ⟨rfl, ?_⟩; walk_at "w"))
local macro_rules | `(tactic| walk_at "isx") => `(tactic| repeat (first | refine ⟨rfl, ?_⟩ | refine DL.onS_some rfl ?_ | refine ⟨Nat.le_of_lt (DL.sz_ok (by decide)), ?_⟩))
local macro_rules | `(tactic| walk_at "eq") => `(tactic| (refine ⟨⟨rfl, rfl⟩, ?_⟩; walk_at "w"))
local macro_rules | `(tactic| walk_at "au") => `(tactic| repeat (first | (refine DL.onS_some rfl ?_; walk_at "w") | (refine ⟨⟨rfl, rfl⟩, ?_⟩; walk_at "w") | (refine ⟨rfl, ?_⟩; walk_at "w") | (refine ⟨by walk_at "side", ?_⟩; walk_at "w") | (refine ⟨Nat.le_of_lt (DL.sz_ok (by decide)), ?_⟩; walk_at "w")))
local macro_rules | `(tactic| walk_at "au1") => `(tactic| (walk_at "w"; first | refine DL.onS_some rfl ?_ | refine ⟨⟨rfl, rfl⟩, ?_⟩ | refine ⟨rfl, ?_⟩ | refine ⟨by walk_at "side", ?_⟩ | refine ⟨Nat.le_of_lt (DL.sz_ok (by decide)), ?_⟩))
namespace Py
open PySem PySem.Spec PyProof.Rows L2 DL Hull Fac
inductive S_faces : List Dat → (Rv → Prop) → (Str → Prop) → Prop
  | mk {κ : Rv → Prop} {ε : Str → Prop} (PS : List (List Pt)) (hl : PS.length ≤ 50000) (hq : ∀ q ∈ PS, q.length ≤ 3)
      (k : κ (.v (.tup [.int (((insA [] (PS.flatMap id)).length : Nat) : Int), .int (((insA [] (PS.flatMap sds)).length : Nat) : Int), .int ((PS.countP three : Nat) : Int)]))) : S_faces [.lst (PS.map pc)] κ ε
theorem sem_faces : ∀ ds κ ε, S_faces ds κ ε → d_faces (endsOf κ ε) (entry ms_faces 7 ds) := by
  intro ds κ ε h
  obtain ⟨PS, hl, hq, k⟩ := h
  show d_faces _ [.br (PS.map pc), .un, .un, .un, .un, .un, .un]
  intro a _
  show t_faces_1 (endsOf κ ε) [.br (PS.map pc), .dc a [], .un, .un, .un, .un, .un]
  intro b hb
  have ab : b ≠ a := fun z => hb 1 [] (by rw [z]; rfl)
  show t_faces_3 (endsOf κ ε) [.br (PS.map pc), .dc a [], .dc b [], .fz (.int 0), .un, .un, .un]
  refine ⟨rfl, ?_⟩
  refine for_map (f := pc) (xs := PS) (fun i ρ => ∃ (P : List Pt) (E : List Sd) (n : Nat) (s4 s5 s6 : Sl), ρ = [.br (PS.map pc), .dc a (ptK P), .dc b (edK E), .fz (.int (n : Int)), s4, s5, s6] ∧ plainS s6 = true ∧ P = insA [] ((PS.take i).flatMap id) ∧ E = insA [] ((PS.take i).flatMap sds) ∧ n = (PS.take i).countP three) ⟨[], [], 0, _, _, _, rfl, rfl, rfl, rfl, rfl⟩ (fun i q ρ N hi h hN => ?_) (fun ρ h => ?_)
  · obtain ⟨P, E, n, s4, s5, s6, rfl, h6, hP, hE, hn⟩ := h
    have q3 : q.length ≤ 3 := hq q (List.mem_of_getElem? hi)
    have lP : P.length ≤ 150000 := by
      have h1 := insA_len (es := []) (xs := (PS.take i).flatMap id)
      have h2 := flat_len id 3 (xs := PS.take i) fun x hx => hq x (List.mem_of_mem_take hx)
      rw [List.length_take] at h2
      rw [← hP] at h1
      simp only [List.length_nil] at h1
      omega
    have lE : E.length ≤ 150000 := by
      have h1 := insA_len (es := []) (xs := (PS.take i).flatMap sds)
      have h2 := flat_len sds 3 (xs := PS.take i) fun x hx => sds_len (hq x (List.mem_of_mem_take hx))
      rw [List.length_take] at h2
      rw [← hE] at h1
      simp only [List.length_nil] at h1
      omega
    have tP : insA [] ((PS.take (i + 1)).flatMap id) = insA P q := by rw [take_flat id hi, insA_app, ← hP]; rfl
    have tE : insA [] ((PS.take (i + 1)).flatMap sds) = insA E (sds q) := by rw [take_flat sds hi, insA_app, ← hE]
    have tn := take_cnt three hi
    rw [← hn] at tn
    have e62 : (2 : Int) ^ 62 = 4611686018427387904 := by decide
    have szo : ∀ n : Nat, n ≤ 150010 → n < sizeLine := fun n h => Nat.lt_of_lt_of_le (show n < 160000 by omega) (by decide)
    have at_ : ∀ k (hk : k < q.length), atI (q.map pt) (0 + (k : Int)) = some (pt (q.getD k (0, 0))) := fun k hk => by
      refine at_mapI (j := k) (by omega) ?_
      rw [List.getElem?_eq_getElem hk, List.getD_eq_getElem?_getD, List.getElem?_eq_getElem hk]; rfl
    walk_at "w"
    rw [List.length_map]
    refine ⟨⟨by omega, by omega⟩, ?_⟩
    refine for_rng (n := q.length) (fun c ρ => ∃ (P' : List Pt) (E' : List Sd) (s5 s6 : Sl), ρ = [.br (PS.map pc), .dc a (ptK P'), .dc b (edK E'), .fz (.int (n : Int)), .fz (pc q), s5, s6] ∧ plainS s6 = true ∧ P' = insA P (q.take c) ∧ E' = insA E ((List.range c).flatMap (sdK q))) ⟨P, E, _, _, rfl, h6, rfl, rfl⟩ (fun c ρ N' hc h hN' => ?_) (fun ρ h => ?_)
    · obtain ⟨P', E', s5, s6, rfl, h6, hP', hE'⟩ := h
      have lP' : P'.length ≤ 150003 := by
        have h1 := insA_len (es := P) (xs := q.take c)
        rw [List.length_take, ← hP'] at h1
        omega
      have sub3 : ∀ c' j, c' < 3 → j ≤ c' → ((List.range c').flatMap (sdK q)).length + j ≤ 3 := fun c' j h1 h2 => by
        have c3 : c' = 0 ∨ c' = 1 ∨ c' = 2 := by omega
        rcases c3 with rfl | rfl | rfl
        · show 0 + j ≤ 3; omega
        · show 0 + j ≤ 3; omega
        · show 1 + j ≤ 3; omega
      have lE' : ∀ j, j ≤ c → E'.length + j ≤ 150003 := fun j hj => by
        have h1 := insA_len (es := E) (xs := (List.range c).flatMap (sdK q))
        have h2 := sub3 c j (by omega) hj
        rw [← hE'] at h1
        omega
      walk_at "w"
      refine onS_some (at_ c hc) ?_
      walk_at "w"
      have kp := key_pt (q.getD c (0, 0))
      refine onS_some rfl (onS_some kp ⟨by rw [ptK_len]; exact szo _ (by omega), noDc_off (l := [.br (PS.map pc)]) (r := [.dc b (edK E'), .fz (.int (n : Int)), .fz (pc q), .fz (.int (0 + (c : Int))), s6]) (al trivial al0) (al ab (al trivial (al trivial (al trivial (al (offD_pl h6) al0))))), ?_⟩)
      rw [put_p]
      show sFor (iRng1 (dVar 5)) (gN 6) b_faces_1 _ [.br (PS.map pc), .dc a (ptK (ins P' (q.getD c (0, 0)))), .dc b (edK E'), .fz (.int (n : Int)), .fz (pc q), .fz (.int (0 + (c : Int))), s6]
      have tc : q.take (c + 1) = q.take c ++ [q.getD c (0, 0)] := by
        rw [List.take_add_one, List.getElem?_eq_getElem hc, List.getD_eq_getElem?_getD, List.getElem?_eq_getElem hc]; rfl
      have eP : ins P' (q.getD c (0, 0)) = insA P (q.take (c + 1)) := by rw [tc, insA_app, ← hP']; rfl
      have eE : insA E ((List.range (c + 1)).flatMap (sdK q)) = insA E' (sdK q c) := by
        rw [List.range_succ, List.flatMap_append, insA_app, ← hE']
        show insA E' (sdK q c ++ []) = _
        rw [List.append_nil]
      rw [eP]
      generalize hP2 : insA P (q.take (c + 1)) = P2
      refine ⟨⟨by omega, by omega⟩, ?_⟩
      have e0 : ((0 : Int) + (c : Int)).toNat = c := by omega
      rw [e0]
      refine for_rng (n := c) (fun j ρ => ∃ (E2 : List Sd) (s6 : Sl), ρ = [.br (PS.map pc), .dc a (ptK P2), .dc b (edK E2), .fz (.int (n : Int)), .fz (pc q), .fz (.int (0 + (c : Int))), s6] ∧ plainS s6 = true ∧ E2 = insA E' ((List.range j).map fun j => ord2 (q.getD j (0, 0)) (q.getD c (0, 0)))) ⟨E', _, rfl, h6, rfl⟩ (fun j ρ N2 hj h hN2 => ?_) (fun ρ h => ?_)
      · obtain ⟨E2, s6', rfl, h6', hE2⟩ := h
        have lj := lE' j (by omega)
        have l2 : E2.length ≤ 150003 := by
          have h1 := insA_len (es := E') (xs := (List.range j).map fun j => ord2 (q.getD j (0, 0)) (q.getD c (0, 0)))
          rw [← hE2, List.length_map, List.length_range] at h1
          omega
        have tj : insA E' ((List.range (j + 1)).map fun j => ord2 (q.getD j (0, 0)) (q.getD c (0, 0))) = ins E2 (ord2 (q.getD j (0, 0)) (q.getD c (0, 0))) := by
          rw [List.range_succ, List.map_append, insA_app, ← hE2]; rfl
        walk_at "w"
        refine onS_some (at_ j (by omega)) (onS_some (at_ c hc) ?_)
        refine ⟨alk2 _ _, ?_⟩
        rw [min_ord]
        refine onS_some (at_ j (by omega)) (onS_some (at_ c hc) ?_)
        refine ⟨alk2 _ _, ?_⟩
        rw [max_ord]
        refine ⟨rfl, ?_⟩
        have ke := key_e (ord2 (q.getD j (0, 0)) (q.getD c (0, 0)))
        refine onS_some rfl (onS_some ke ⟨by rw [edK_len]; exact szo _ (by omega), noDc_off (l := [.br (PS.map pc), .dc a (ptK P2)]) (r := [.fz (.int (n : Int)), .fz (pc q), .fz (.int (0 + (c : Int))), .fz (.int (0 + (j : Int)))]) (al trivial (al (Ne.symm ab) al0)) (al trivial (al trivial (al trivial (al trivial al0)))), ?_⟩)
        rw [put_e]
        exact hN2 _ ⟨_, _, rfl, rfl, by rw [tj]⟩
      · obtain ⟨E2, s6', rfl, h6', hE2⟩ := h
        exact hN' _ ⟨_, _, _, _, rfl, h6', hP2.symm, by rw [eE]; exact hE2⟩
    · obtain ⟨P', E', s5, s6, rfl, h6, rfl, rfl⟩ := h
      have e1 : insA P (q.take q.length) = insA P q := by rw [List.take_length]
      have e2 : insA E ((List.range q.length).flatMap (sdK q)) = insA E (sds q) := rfl
      rw [e1, e2, ← tP, ← tE]
      refine ⟨by walk_at "side", ?_⟩
      rw [List.length_map]
      refine ifd (fun h3 => ?_) fun h3 => ?_
      · have t3 : three q = true := decide_eq_true (by omega)
        rw [if_pos t3] at tn
        exact hN _ ⟨_, _, n + 1, .fz (pc q), s5, s6, rfl, h6, rfl, rfl, tn.symm⟩
      · have t3 : ¬ three q = true := fun z => h3 (by have := of_decide_eq_true z; omega)
        rw [if_neg t3] at tn
        exact hN _ ⟨_, _, n, _, _, _, rfl, h6, rfl, rfl, tn.symm⟩
  · obtain ⟨P, E, n, s4, s5, s6, rfl, h6, hP, hE, hn⟩ := h
    rw [List.take_length] at hP hE hn
    subst hP hE hn
    refine ⟨rfl, rfl, ?_⟩
    rw [ptK_len, edK_len]
    exact k
end Py
namespace Py
open PySem PySem.Spec PyProof.Rows L2 DL
def S_L_whole : Fsp := fun ds κ _ => ∃ d, ds = [d] ∧ κ (.v (.bl (match d with | .int _ => true | _ => false)))
theorem sem_L_whole : ∀ ds κ ε, S_L_whole ds κ ε → d_L_whole (endsOf κ ε) (entry ms_L_whole 1 ds) := by
  rintro _ κ ε ⟨d, rfl, k⟩
  cases d <;> exact ⟨rfl, k⟩
end Py
namespace Py
open PySem PySem.Spec PyProof.Rows L2 DL
def cAt (ns : List Int) (k : Int) : Int := ns.getD k.toNat 0
theorem cAt_bt {ns : List Int} (hs : Scr ns) (k : Int) : Bt 1048577 (cAt ns k) := by
  unfold cAt
  rw [List.getD_eq_getElem?_getD]
  by_cases h : k.toNat < ns.length
  · rw [List.getElem?_eq_getElem h]
    exact hs.bt _ (List.getElem_mem h)
  · rw [List.getElem?_eq_none (by omega)]
    exact (Bt.lit (k := 1) rfl).mono (by decide)
inductive S_L_cell_at : List Dat → (Rv → Prop) → (Str → Prop) → Prop
  | mk {κ : Rv → Prop} {ε : Str → Prop} (ns : List Int) (k : Int) (hs : Scr ns) (h0 : 0 ≤ k) (q : κ (.v (.int (cAt ns k)))) : S_L_cell_at [.lst (ns.map Dat.int), .int k] κ ε
theorem sem_L_cell_at : ∀ ds κ ε, S_L_cell_at ds κ ε → d_L_cell_at (endsOf κ ε) (entry ms_L_cell_at 2 ds) := by
  intro ds κ ε h
  obtain ⟨ns, k, hs, h0, q⟩ := h
  obtain ⟨k, rfl⟩ := Int.eq_ofNat_of_zero_le h0
  unfold cAt at q
  rw [List.getD_eq_getElem?_getD] at q
  refine ifd (fun hl => ?_) (fun hl => ?_)
  · have hl : k < ns.length := by rw [List.length_map] at hl; omega
    have e : ((k : Nat) : Int).toNat = k := by omega
    rw [e, List.getElem?_eq_getElem hl] at q
    exact onS_some (at_mapI (j := k) rfl (List.getElem?_eq_getElem hl)) ⟨rfl, q⟩
  · have hl : ¬ k < ns.length := by rw [List.length_map] at hl; omega
    have e : ((k : Nat) : Int).toNat = k := by omega
    rw [e, List.getElem?_eq_none (by omega)] at q
    exact ⟨rfl, q⟩
end Py
-- plain: DLq DLs DLr DLx DLy DLz DLzb DLzo DLzs DLsnb PNum PEq PMov PTurn PTri PSelf PHull PGeo PGeo2 PGeo3 PGeo4 PRound PLex PWhere PBest PSpan PSort POrd PDc PFac
namespace Py
open PySem PySem.Spec PyProof.Rows L2 DL Hull Fac
/-- the sides as the law tells them -/
def dsd : List Pt → List Sd
  | [a, b] => [ord2 a b]
  | [a, b, c] => [ord2 a b, ord2 b c, ord2 c a]
  | _ => []
theorem dsd_len : ∀ q : List Pt, (dsd q).length ≤ 3
  | [] => by decide
  | [a] => by show 0 ≤ 3; decide
  | [a, b] => by show 1 ≤ 3; decide
  | [a, b, c] => by show 3 ≤ 3; decide
  | _ :: _ :: _ :: _ :: _ => by show 0 ≤ 3; decide
theorem dsd_mem {q : List Pt} (h : q.length ≤ 3) (e : Sd) : e ∈ dsd q ↔ e ∈ sds q := by
  match q, h with
  | [], _ => exact Iff.rfl
  | [a], _ => exact Iff.rfl
  | [a, b], _ => exact Iff.rfl
  | [a, b, c], _ =>
    rw [sds3]
    show e ∈ [ord2 a b, ord2 b c, ord2 c a] ↔ _
    rw [ord2_swap c a]
    simp only [List.mem_cons, List.not_mem_nil, or_false]
    constructor
    · rintro (h | h | h) <;> simp [h]
    · rintro (h | h | h) <;> simp [h]
def facT (PS : List (List Pt)) : Dat := .tup [.int (((insA [] (PS.flatMap id)).length : Nat) : Int), .int (((insA [] (PS.flatMap sds)).length : Nat) : Int), .int ((PS.countP three : Nat) : Int)]
inductive S_L_due : List Dat → (Rv → Prop) → (Str → Prop) → Prop
  | mk {κ : Rv → Prop} {ε : Str → Prop} (PS : List (List Pt)) (hl : PS.length ≤ 60) (hq : ∀ q ∈ PS, 1 ≤ q.length ∧ q.length ≤ 3) (k : κ (.v (facT PS))) : S_L_due [.lst (PS.map pc)] κ ε
theorem sem_L_due : ∀ ds κ ε, S_L_due ds κ ε → d_L_due (endsOf κ ε) (entry ms_L_due 5 ds) := by
  intro ds κ ε h
  obtain ⟨PS, hl, hq, k⟩ := h
  show d_L_due _ [.br (PS.map pc), .un, .un, .un, .un]
  refine ⟨rfl, rfl, ?_⟩
  show t_L_due_3 (endsOf κ ε) [.br (PS.map pc), .ow [], .ow [], .fz (.int 0), .un]
  refine ⟨rfl, ?_⟩
  have szo : ∀ n : Nat, n ≤ 1000 → n ≤ sizeLine := fun n h => Nat.le_of_lt (Nat.lt_of_lt_of_le (show n < 160000 by omega) (by decide))
  have szl : ∀ n : Nat, n ≤ 1000 → n < sizeLine := fun n h => Nat.lt_of_lt_of_le (show n < 160000 by omega) (by decide)
  refine for_map (f := pc) (xs := PS) (fun i ρ => ∃ (A B : List Dat) (n : Nat) (s4 : Sl), ρ = [.br (PS.map pc), .ow A, .ow B, .fz (.int (n : Int)), s4] ∧ A = ((PS.take i).flatMap id).map pt ∧ B = ((PS.take i).flatMap dsd).map eD ∧ n = (PS.take i).countP three) ⟨[], [], 0, _, rfl, rfl, rfl, rfl⟩ (fun i q ρ N hi h hN => ?_) (fun ρ h => ?_)
  · obtain ⟨A, B, n, s4, rfl, hA, hB, hn⟩ := h
    have q3 := hq q (List.mem_of_getElem? hi)
    have lA : A.length ≤ 180 := by
      have h2 := flat_len id 3 (xs := PS.take i) fun x hx => (hq x (List.mem_of_mem_take hx)).2
      rw [List.length_take] at h2
      rw [hA, List.length_map]
      omega
    have lB : B.length ≤ 180 := by
      have h2 := flat_len dsd 3 (xs := PS.take i) fun x hx => dsd_len x
      rw [List.length_take] at h2
      rw [hB, List.length_map]
      omega
    have tA : A ++ q.map pt = ((PS.take (i + 1)).flatMap id).map pt := by rw [take_flat id hi, List.map_append, ← hA]; rfl
    have tB : B ++ (dsd q).map eD = ((PS.take (i + 1)).flatMap dsd).map eD := by rw [take_flat dsd hi, List.map_append, ← hB]
    have tn := take_cnt three hi
    rw [← hn] at tn
    have key : ∀ B' n', B' = B ++ (dsd q).map eD → n' = n + (if three q = true then 1 else 0) → N [.br (PS.map pc), .ow (A ++ q.map pt), .ow B', .fz (.int ((n' : Nat) : Int)), .fz (pc q)] := fun B' n' h1 h2 =>
      hN _ ⟨_, _, _, _, rfl, tA, h1.trans tB, h2.trans tn.symm⟩
    clear hN tA tB tn hA hB hn
    match q, q3 with
    | [a], _ =>
      have key := key B n (by show B = B ++ []; rw [List.append_nil]) rfl
      walk_at "w"
      refine ⟨szo _ (by show A.length + 1 ≤ 1000; omega), ?_⟩
      walk_at "w"
      refine ⟨⟨rfl, rfl⟩, ?_⟩
      exact key
    | [a, b], _ =>
      have key := key (B ++ [eD (ord2 a b)]) n rfl rfl
      walk_at "w"
      refine ⟨szo _ (by show A.length + 2 ≤ 1000; omega), ?_⟩
      walk_at "w"
      rw [show DL.cutD (List.map pt [a, b]) none (some 2) = [pt a, pt b] from rfl, sort_ord]
      refine ⟨srt2 a b, szo 2 (by decide), ?_⟩
      walk_at "w"
      refine ⟨szl _ (by omega), ?_⟩
      walk_at "w"
      refine ⟨⟨rfl, rfl⟩, ?_⟩
      exact key
    | [a, b, c], _ =>
      have key := key (B ++ [eD (ord2 a b)] ++ [eD (ord2 b c)] ++ [eD (ord2 c a)]) (n + 1) (by rw [List.append_assoc, List.append_assoc]; rfl) rfl
      walk_at "w"
      refine ⟨szo _ (by show A.length + 3 ≤ 1000; omega), ?_⟩
      walk_at "w"
      rw [show DL.cutD (List.map pt [a, b, c]) none (some 2) = [pt a, pt b] from rfl, sort_ord]
      refine ⟨srt2 a b, szo 2 (by decide), ?_⟩
      walk_at "w"
      refine ⟨szl _ (by omega), ?_⟩
      walk_at "w"
      refine ⟨⟨rfl, rfl⟩, ?_⟩
      walk_at "w"
      rw [show DL.cutD (List.map pt [a, b, c]) (some 1) none = [pt b, pt c] from rfl, sort_ord]
      refine ⟨srt2 b c, szo 2 (by decide), ?_⟩
      walk_at "w"
      refine ⟨szl _ (by show (B ++ [eD (ord2 a b)]).length ≤ 1000; rw [List.length_append]; show B.length + 1 ≤ 1000; omega), ?_⟩
      walk_at "w"
      refine onS_some (x := pt c) rfl ?_
      refine onS_some (x := pt a) rfl ⟨rfl, ?_⟩
      refine ⟨srt2 c a, ?_⟩
      rw [sort_ord]
      walk_at "w"
      refine ⟨szl _ (by show (B ++ [eD (ord2 a b)] ++ [eD (ord2 b c)]).length ≤ 1000; rw [List.length_append, List.length_append]; show B.length + 1 + 1 ≤ 1000; omega), ?_⟩
      exact key
  · obtain ⟨A, B, n, s4, rfl, hA, hB, hn⟩ := h
    rw [List.take_length] at hA hB hn
    subst hA hB hn
    have lA : (PS.flatMap id).length ≤ 180 := by
      have h2 := flat_len id 3 (xs := PS) fun x hx => (hq x hx).2
      omega
    have lB : (PS.flatMap dsd).length ≤ 180 := by
      have h2 := flat_len dsd 3 (xs := PS) fun x hx => dsd_len x
      omega
    have a1 : (((PS.flatMap id).map pt).all isKey) = true := by
      rw [List.all_map, List.all_eq_true]
      intro p _
      exact isKey_pt p
    have b1 : (((PS.flatMap dsd).map eD).all isKey) = true := by
      rw [List.all_map, List.all_eq_true]
      intro p _
      exact isKey_e p
    refine ⟨a1, by rw [List.length_map]; omega, fun L nd hL => ?_⟩
    refine ⟨b1, by rw [List.length_map]; omega, fun M nd2 hM => ?_⟩
    have e1 : L.length = (insA [] (PS.flatMap id)).length := by
      have h := nd_same nd (ys := (insA [] (PS.flatMap id)).map fun p => nkD (pt p)) (List.pairwise_map.mpr ((insA_nd (xs := PS.flatMap id) List.nodup_nil).imp fun {a b} ne e => ne (nk_pt.mp e))) fun x => by
        rw [hL, List.map_map, List.mem_map, List.mem_map]
        constructor
        · rintro ⟨p, hp, rfl⟩; exact ⟨p, insA_mem.mpr (.inr hp), rfl⟩
        · rintro ⟨p, hp, rfl⟩; exact ⟨p, (insA_mem.mp hp).resolve_left (by simp), rfl⟩
      rw [h, List.length_map]
    have e2 : M.length = (insA [] (PS.flatMap sds)).length := by
      have mm : ∀ e, e ∈ PS.flatMap dsd ↔ e ∈ PS.flatMap sds := fun e => by
        rw [List.mem_flatMap, List.mem_flatMap]
        constructor
        · rintro ⟨q, h1, h2⟩; exact ⟨q, h1, (dsd_mem (hq q h1).2 e).mp h2⟩
        · rintro ⟨q, h1, h2⟩; exact ⟨q, h1, (dsd_mem (hq q h1).2 e).mpr h2⟩
      have h := nd_same nd2 (ys := (insA [] (PS.flatMap sds)).map fun p => nkD (eD p)) (List.pairwise_map.mpr ((insA_nd (xs := PS.flatMap sds) List.nodup_nil).imp fun {a b} ne e => ne (nk_e.mp e))) fun x => by
        rw [hM, List.map_map, List.mem_map, List.mem_map]
        constructor
        · rintro ⟨p, hp, rfl⟩; exact ⟨p, insA_mem.mpr (.inr ((mm p).mp hp)), rfl⟩
        · rintro ⟨p, hp, rfl⟩; exact ⟨p, (mm p).mpr ((insA_mem.mp hp).resolve_left (by simp)), rfl⟩
      rw [h, List.length_map]
    rw [e1, e2]
    exact ⟨rfl, rfl, k⟩
inductive S_L_piece : List Dat → (Rv → Prop) → (Str → Prop) → Prop
  | mk {κ : Rv → Prop} {ε : Str → Prop} (cell b s : Int) (hb : Bt 200 b) (hs : Bt 200 s) (hc : Bt 1048577 cell) (k : ∀ q : List Pt, 1 ≤ q.length → q.length ≤ 3 → κ (.v (pc q))) : S_L_piece [.int cell, .int b, .int s] κ ε
def wys : List Pt := [(1, 0), (0, 1), (1, 1), (-1, 1), (2, -1), (-1, -2), (-1, 0)]
theorem wys_at {i : Int} (h0 : 0 ≤ i) (h7 : i < 7) : ∃ p, atI (wys.map pt) i = some (pt p) ∧ BP 3 p := by
  have : i = 0 ∨ i = 1 ∨ i = 2 ∨ i = 3 ∨ i = 4 ∨ i = 5 ∨ i = 6 := by omega
  rcases this with rfl | rfl | rfl | rfl | rfl | rfl | rfl
  · exact ⟨(1, 0), rfl, by rw [Bt.def]; decide, by rw [Bt.def]; decide⟩
  · exact ⟨(0, 1), rfl, by rw [Bt.def]; decide, by rw [Bt.def]; decide⟩
  · exact ⟨(1, 1), rfl, by rw [Bt.def]; decide, by rw [Bt.def]; decide⟩
  · exact ⟨(-1, 1), rfl, by rw [Bt.def]; decide, by rw [Bt.def]; decide⟩
  · exact ⟨(2, -1), rfl, by rw [Bt.def]; decide, by rw [Bt.def]; decide⟩
  · exact ⟨(-1, -2), rfl, by rw [Bt.def]; decide, by rw [Bt.def]; decide⟩
  · exact ⟨(-1, 0), rfl, by rw [Bt.def]; decide, by rw [Bt.def]; decide⟩
theorem sem_L_piece : ∀ ds κ ε, S_L_piece ds κ ε → d_L_piece (endsOf κ ε) (entry ms_L_piece 10 ds) := by
  intro ds κ ε h
  obtain ⟨cell, b, s, hb, hs, hc, k⟩ := h
  have ex : t_L_piece_1 (endsOf κ ε) [.fz (.int cell), .fz (.int b), .fz (.int s), .ow (wys.map pt), .un, .un, .un, .un, .un, .un] := by
    refine ⟨by walk_at "side", by walk_at "side", ?_⟩
    refine ⟨by walk_at "side", by walk_at "side", ?_⟩
    have x0 := Int.emod_nonneg (cell / 3) (show (5 : Int) ≠ 0 by decide)
    have x1 := Int.emod_lt_of_pos (cell / 3) (show (0 : Int) < 5 by decide)
    have y0 := Int.emod_nonneg (cell / 15) (show (4 : Int) ≠ 0 by decide)
    have y1 := Int.emod_lt_of_pos (cell / 15) (show (0 : Int) < 4 by decide)
    show t_L_piece_3 (endsOf κ ε) [.fz (.int cell), .fz (.int b), .fz (.int s), .ow (wys.map pt), .fz (.int (cell / 3 % 5)), .fz (.int (cell / 15 % 4)), .un, .un, .un, .un]
    have bx : Bt 4 (cell / 3 % 5) := by rw [Bt.def]; omega
    have by' : Bt 4 (cell / 15 % 4) := by rw [Bt.def]; omega
    generalize cell / 3 % 5 = x at *
    generalize cell / 15 % 4 = y at *
    obtain ⟨o, eo, bo⟩ := wys_at (Int.emod_nonneg (cell / 60) (show (7 : Int) ≠ 0 by decide)) (Int.emod_lt_of_pos (cell / 60) (show (0 : Int) < 7 by decide))
    obtain ⟨t, et, bt⟩ := wys_at (Int.emod_nonneg (cell / 60 % 7 + 1 + cell / 420 % 6) (show (7 : Int) ≠ 0 by decide)) (Int.emod_lt_of_pos (cell / 60 % 7 + 1 + cell / 420 % 6) (show (0 : Int) < 7 by decide))
    refine ⟨by walk_at "side", by walk_at "side", onS_some eo ?_⟩
    refine ⟨by walk_at "side", by walk_at "side", by walk_at "side", by walk_at "side", by walk_at "side", onS_some et ?_⟩
    show t_L_piece_5 (endsOf κ ε) [.fz (.int cell), .fz (.int b), .fz (.int s), .ow (wys.map pt), .fz (.int x), .fz (.int y), .fz (pt o), .fz (pt t), .un, .un]
    clear eo et
    have e5 : t_L_piece_6 (endsOf κ ε) [.fz (.int cell), .fz (.int b), .fz (.int s), .ow (wys.map pt), .fz (.int x), .fz (.int y), .fz (pt o), .fz (pt t), .ow ([((x, y) : Pt), (x + o.1, y + o.2), (x + t.1, y + t.2)].map pt), .un] := by
      have bp : ∀ p ∈ [((x, y) : Pt), (x + o.1, y + o.2), (x + t.1, y + t.2)], BP 10 p := fun p hp => by
        simp only [List.mem_cons, List.not_mem_nil, or_false] at hp
        rcases hp with rfl | rfl | rfl
        · exact ⟨bx.mono (by decide), by'.mono (by decide)⟩
        · exact ⟨(bx.add bo.x).mono (by decide), (by'.add bo.y).mono (by decide)⟩
        · exact ⟨(bx.add bt.x).mono (by decide), (by'.add bt.y).mono (by decide)⟩
      have l3 : [((x, y) : Pt), (x + o.1, y + o.2), (x + t.1, y + t.2)].length = 3 := rfl
      generalize [((x, y) : Pt), (x + o.1, y + o.2), (x + t.1, y + t.2)] = Q at *
      have c0 := Int.emod_nonneg cell (show (3 : Int) ≠ 0 by decide)
      have c1 := Int.emod_lt_of_pos cell (show (0 : Int) < 3 by decide)
      obtain ⟨Q', eq, hb', h1, h2⟩ : ∃ Q' : List Pt, DL.cutD (Q.map pt) none (some (1 + cell % 3)) = Q'.map pt ∧ (∀ p ∈ Q', BP 10 p) ∧ 1 ≤ Q'.length ∧ Q'.length ≤ 3 := by
        match Q, l3 with
        | [p1, p2, p3], _ =>
          have r3 : cell % 3 = 0 ∨ cell % 3 = 1 ∨ cell % 3 = 2 := by omega
          rcases r3 with r | r | r <;> rw [r]
          · exact ⟨[p1], rfl, fun p hp => bp p (by simp at hp; simp [hp]), Nat.le_refl 1, by show 1 ≤ 3; decide⟩
          · exact ⟨[p1, p2], rfl, fun p hp => bp p (by simp at hp; rcases hp with rfl | rfl <;> simp), by show 1 ≤ 2; decide, by show 2 ≤ 3; decide⟩
          · exact ⟨[p1, p2, p3], rfl, bp, by show 1 ≤ 3; decide, Nat.le_refl 3⟩
      refine ⟨by walk_at "side", rfl, ?_⟩
      refine lc_map' (h := fun p : Pt => pt (s + b * p.1, b * p.2 - s)) Q' eq (by omega) (fun p N hp hN => ?_) ?_
      · have b1 := (hb' p hp).x
        have b2 := (hb' p hp).y
        have m1 : MulOk b p.1 := mulok hb b1 rfl
        have m2 : MulOk b p.2 := mulok hb b2 rfl
        refine onS_some (x := .int p.1) rfl ?_
        refine ⟨m1, ?_⟩
        refine onS_some (x := .int p.2) rfl ?_
        exact ⟨m2, rfl, hN⟩
      · have e : Q'.map (fun p : Pt => pt (s + b * p.1, b * p.2 - s)) = (Q'.map fun p => (s + b * p.1, b * p.2 - s)).map pt := by rw [List.map_map]; rfl
        rw [e]
        refine ⟨rfl, ?_⟩
        exact k (Q'.map fun p => (s + b * p.1, b * p.2 - s)) (by rw [List.length_map]; exact h1) (by rw [List.length_map]; exact h2)
    refine ⟨rfl, ?_⟩
    refine onS_some (x := .int o.1) rfl ?_
    refine onS_some (x := .int o.2) rfl ?_
    refine ⟨rfl, ?_⟩
    refine onS_some (x := .int t.1) rfl ?_
    refine onS_some (x := .int t.2) rfl ?_
    exact ⟨rfl, rfl, e5⟩
  exact ⟨rfl, rfl, rfl, rfl, rfl, rfl, rfl, rfl, ex⟩
theorem shp_pc (n : Nat) : ∀ PS : List (List Pt), shp (n + 4) (.lst (PS.map pc)) = true := by
  have go : ∀ PS : List (List Pt), shpL (n + 3) (PS.map pc) = true := by
    intro PS
    induction PS with
    | nil => unfold List.map shpL; rfl
    | cons q PS ih =>
      rw [List.map_cons]
      unfold shpL
      rw [ih, Bool.and_true]
      unfold pc shp
      exact shp_ptsL (n + 1) q
  intro PS
  unfold shp
  exact go PS
def S_law : Fsp := fun ds κ _ => ∃ ns : List Int, ds = [.lst (ns.map Dat.int)] ∧ Scr ns ∧ κ (.v (.bl true))
theorem S_law_of (ns : List Int) (κ : Rv → Prop) (ε : Str → Prop) (h : Scr ns) (k : κ (.v (.bl true))) : S_law [.lst (ns.map Dat.int)] κ ε := ⟨ns, rfl, h, k⟩
theorem sem_law : ∀ ds κ ε, S_law ds κ ε → d_law S_L_cell_at S_L_piece S_faces S_L_whole S_L_due (endsOf κ ε) (entry ms_law 8 ds) := by
  intro ds κ ε h
  obtain ⟨ns, rfl, hs, k⟩ := h
  have hl := hs.len'
  show d_law _ _ _ _ _ _ [.br (ns.map Dat.int), .un, .un, .un, .un, .un, .un, .un]
  refine .mk ns 0 hs (by decide) ?_
  have c0 := cAt_bt hs 0
  have b30 : Bt 200 (1 + cAt ns 0 % 2 * 10 ^ 30) := by
    have h0 := Int.emod_nonneg (cAt ns 0) (show (2 : Int) ≠ 0 by decide)
    have h1 := Int.emod_lt_of_pos (cAt ns 0) (show (0 : Int) < 2 by decide)
    have h2 : cAt ns 0 % 2 = 0 ∨ cAt ns 0 % 2 = 1 := by omega
    rcases h2 with h2 | h2 <;> rw [h2]
    · exact (Bt.lit (k := 1) rfl).mono (by decide)
    · exact (Bt.lit (k := 102) rfl).mono (by decide)
  have c1 := cAt_bt hs 1
  have b40 : Bt 200 (cAt ns 1 % (2 * 10 ^ 40 + 1) - 10 ^ 40) := by walk_at "btl"
  refine ⟨by walk_at "side", by walk_at "side", by walk_at "side", ?_⟩
  show t_law_1 S_L_cell_at S_L_piece S_faces S_L_whole S_L_due (endsOf κ ε) [.br (ns.map Dat.int), .fz (.int (1 + cAt ns 0 % 2 * 10 ^ 30)), .un, .un, .un, .un, .un, .un]
  generalize 1 + cAt ns 0 % 2 * 10 ^ 30 = b at *
  refine .mk ns 1 hs (by decide) ?_
  refine ⟨by walk_at "side", by walk_at "side", by walk_at "side", by walk_at "side", ?_⟩
  show t_law_2 S_L_cell_at S_L_piece S_faces S_L_whole S_L_due (endsOf κ ε) [.br (ns.map Dat.int), .fz (.int b), .fz (.int (cAt ns 1 % (2 * 10 ^ 40 + 1) - 10 ^ 40)), .un, .un, .un, .un, .un]
  generalize cAt ns 1 % (2 * 10 ^ 40 + 1) - 10 ^ 40 = st at *
  have ec : DL.cutD (ns.map Dat.int) (some 2) (some 60) = ((ns.drop 2).take 58).map Dat.int := by
    rw [List.map_take, List.map_drop]
    exact cutD_any _ 2 60
  refine ⟨rfl, ?_⟩
  refine lc_rel' ((ns.drop 2).take 58) ec (fun _ q => 1 ≤ q.length ∧ q.length ≤ 3) (h := pc) (by rw [List.length_take]; omega) (fun c N hc hN => ?_) fun PS hP => ?_
  · have hc' : Bt 1048577 c := hs.bt c (List.mem_of_mem_drop (List.mem_of_mem_take hc))
    exact .mk c b st b30 b40 hc' fun q h1 h2 => hN q ⟨h1, h2⟩
  have hq : ∀ q ∈ PS, 1 ≤ q.length ∧ q.length ≤ 3 := hP.mem fun x _ y h => h
  have hPl : PS.length ≤ 60 := by rw [hP.1, List.length_take]; omega
  clear hP
  show t_law_3 S_L_cell_at S_L_piece S_faces S_L_whole S_L_due (endsOf κ ε) [.br (ns.map Dat.int), .fz (.int b), .fz (.int st), .ow (PS.map pc), .un, .un, .un, .un]
  show t_law_4 S_L_cell_at S_L_piece S_faces S_L_whole S_L_due (endsOf κ ε) [.br (ns.map Dat.int), .fz (.int b), .fz (.int st), .ow (PS.map pc), .un, .ow (PS.map pc), .un, .un]
  refine .mk PS (by omega) (fun q h => (hq q h).2) ?_
  show t_law_5 S_L_cell_at S_L_piece S_faces S_L_whole S_L_due (endsOf κ ε) [.br (ns.map Dat.int), .fz (.int b), .fz (.int st), .ow (PS.map pc), .un, .ow (PS.map pc), .fz (facT PS), .un]
  refine ⟨⟨rfl, rfl⟩, ⟨shp_pc 60 _, shp_pc 60 _⟩, ?_⟩
  show asB (.v (.bl (!eqD (.lst (PS.map pc)) (.lst (PS.map pc))))) _
  rw [eqD_refl 64 _ (shp_pc 60 PS)]
  show t_law_6 S_L_cell_at S_L_piece S_faces S_L_whole S_L_due (endsOf κ ε) [.br (ns.map Dat.int), .fz (.int b), .fz (.int st), .ow (PS.map pc), .un, .ow (PS.map pc), .fz (facT PS), .un]
  have key : ∀ xs : List Int, facT PS = .tup (xs.map Dat.int) → t_law_6 S_L_cell_at S_L_piece S_faces S_L_whole S_L_due (endsOf κ ε) [.br (ns.map Dat.int), .fz (.int b), .fz (.int st), .ow (PS.map pc), .un, .ow (PS.map pc), .fz (.tup (xs.map Dat.int)), .un] := by
    intro xs hx
    refine ⟨rfl, ?_⟩
    refine for_map (f := Dat.int) (xs := xs) (fun i ρ => ∃ s7, ρ = [.br (ns.map Dat.int), .fz (.int b), .fz (.int st), .ow (PS.map pc), .un, .ow (PS.map pc), .fz (.tup (xs.map Dat.int)), s7]) ⟨_, rfl⟩ (fun i x ρ N _ h hN => ?_) (fun ρ h => ?_)
    · obtain ⟨s7, rfl⟩ := h
      exact ⟨_, rfl, hN _ ⟨_, rfl⟩⟩
    · obtain ⟨s7, rfl⟩ := h
      rw [← hx]
      refine .mk PS hPl hq ?_
      have sf : shp 60 (facT PS) = true := rfl
      refine ⟨⟨shp_up (by decide) sf, shp_up (by decide) sf⟩, ?_⟩
      show retOk (.v (.bl (eqD (facT PS) (facT PS)))) = true ∧ κ (.v (.bl (eqD (facT PS) (facT PS))))
      rw [eqD_refl 60 _ sf]
      exact ⟨rfl, k⟩
  exact key [_, _, _] rfl
end Py
namespace Py
open PySem PySem.Spec PyProof.Rows L2 DL
theorem all_mk {l : PySem.W.OpenLaw} {w : World} {K : PySem.W.Frag} {h : Heap} {mg : MG} {fa f0 f1 f2 f3 f4 f5 : Addr} (X : K.In h) (G : h.Ns mainGlobals mg) (hfa : mg "law" = some (.ref fa))
    {od0 od1 od2 od3 od4 od5 an0 an1 an2 an3 an4 an5 : Option Addr} {sl0 sl1 sl2 sl3 sl4 sl5 : Array (Option Value)} {oc0 oc1 oc2 oc3 oc4 oc5 kV0 kV1 kV2 kV3 kV4 kV5 dc0 dc1 dc2 dc3 dc4 dc5 pm0 pm1 pm2 pm3 pm4 pm5 cd0 cd1 cd2 cd3 cd4 cd5 ct0 ct1 ct2 ct3 ct4 ct5 : Value}
    (a0 : PySem.W.nsIn K mainGlobals "faces" = some (some (.ref f0))) (l0 : K.lookup f0 = some ⟨oc0, od0, .func (PySem.W.fnOf "faces" "faces" (defArgs s_faces) (defBody s_faces) (defScope s_faces) .none kV0 dc0 pm0 an0 cd0 ct0), sl0⟩) (c0 : PySem.W.codeIn K cd0 "faces" = true) (k0 : PySem.W.keepIn K (.ref f0) = true)
    (a1 : PySem.W.nsIn K mainGlobals "_law_cell_at" = some (some (.ref f1))) (l1 : K.lookup f1 = some ⟨oc1, od1, .func (PySem.W.fnOf "_law_cell_at" "_law_cell_at" (defArgs s_L_cell_at) (defBody s_L_cell_at) (defScope s_L_cell_at) .none kV1 dc1 pm1 an1 cd1 ct1), sl1⟩) (c1 : PySem.W.codeIn K cd1 "_law_cell_at" = true) (k1 : PySem.W.keepIn K (.ref f1) = true)
    (a2 : PySem.W.nsIn K mainGlobals "_law_whole" = some (some (.ref f2))) (l2 : K.lookup f2 = some ⟨oc2, od2, .func (PySem.W.fnOf "_law_whole" "_law_whole" (defArgs s_L_whole) (defBody s_L_whole) (defScope s_L_whole) .none kV2 dc2 pm2 an2 cd2 ct2), sl2⟩) (c2 : PySem.W.codeIn K cd2 "_law_whole" = true) (k2 : PySem.W.keepIn K (.ref f2) = true)
    (a3 : PySem.W.nsIn K mainGlobals "_law_piece" = some (some (.ref f3))) (l3 : K.lookup f3 = some ⟨oc3, od3, .func (PySem.W.fnOf "_law_piece" "_law_piece" (defArgs s_L_piece) (defBody s_L_piece) (defScope s_L_piece) .none kV3 dc3 pm3 an3 cd3 ct3), sl3⟩) (c3 : PySem.W.codeIn K cd3 "_law_piece" = true) (k3 : PySem.W.keepIn K (.ref f3) = true)
    (a4 : PySem.W.nsIn K mainGlobals "_law_due" = some (some (.ref f4))) (l4 : K.lookup f4 = some ⟨oc4, od4, .func (PySem.W.fnOf "_law_due" "_law_due" (defArgs s_L_due) (defBody s_L_due) (defScope s_L_due) .none kV4 dc4 pm4 an4 cd4 ct4), sl4⟩) (c4 : PySem.W.codeIn K cd4 "_law_due" = true) (k4 : PySem.W.keepIn K (.ref f4) = true)
    (a5 : PySem.W.nsIn K mainGlobals "law" = some (some (.ref f5))) (l5 : K.lookup f5 = some ⟨oc5, od5, .func (PySem.W.fnOf "law" "law" (defArgs s_law) (defBody s_law) (defScope s_law) .none kV5 dc5 pm5 an5 cd5 ct5), sl5⟩) (c5 : PySem.W.codeIn K cd5 "law" = true) (k5 : PySem.W.keepIn K (.ref f5) = true)
    (zbool_ : PySem.W.nsIn K mainGlobals "bool" = some none)
    (zint_ : PySem.W.nsIn K mainGlobals "int" = some none)
    (zisinstance_ : PySem.W.nsIn K mainGlobals "isinstance" = some none)
    (zlen_ : PySem.W.nsIn K mainGlobals "len" = some none)
    (zlist_ : PySem.W.nsIn K mainGlobals "list" = some none)
    (zmax_ : PySem.W.nsIn K mainGlobals "max" = some none)
    (zmin_ : PySem.W.nsIn K mainGlobals "min" = some none)
    (zrange_ : PySem.W.nsIn K mainGlobals "range" = some none)
    (zset_ : PySem.W.nsIn K mainGlobals "set" = some none)
    (zsorted_ : PySem.W.nsIn K mainGlobals "sorted" = some none)
    (ztuple_ : PySem.W.nsIn K mainGlobals "tuple" = some none)
    : ∃ fd : FuncData, (∀ (s : Shared) (v : Value), BindsTo s fd ⟨[v], []⟩ [("script", v)]) ∧ ∀ base : Heap, K.In base → base.Ns mainGlobals mg → FnOk l.prog w K mg base (L2.CX l.prog w) 2 fa fd ["script"] (spLaw K) := by
  have e := hfa.symm.trans (PySem.W.mg_of X G a5)
  cases e
  have B : Bs mg := ⟨PySem.W.mg_none_of X G zbool_, PySem.W.mg_none_of X G zint_, PySem.W.mg_none_of X G zisinstance_, PySem.W.mg_none_of X G zlen_, PySem.W.mg_none_of X G zlist_, PySem.W.mg_none_of X G zmax_, PySem.W.mg_none_of X G zmin_, PySem.W.mg_none_of X G zrange_, PySem.W.mg_none_of X G zset_, PySem.W.mg_none_of X G zsorted_, PySem.W.mg_none_of X G ztuple_⟩
  have F0 := fun_mk (st := s_faces) l0 c0 k0
  have b0 := F0.binds (ps := ["some"]) fun _ _ _ _ _ _ us hl => match us, hl with | [_], _ => rfl
  have F1 := fun_mk (st := s_L_cell_at) l1 c1 k1
  have b1 := F1.binds (ps := ["script", "k"]) fun _ _ _ _ _ _ us hl => match us, hl with | [_, _], _ => rfl
  have F2 := fun_mk (st := s_L_whole) l2 c2 k2
  have b2 := F2.binds (ps := ["found"]) fun _ _ _ _ _ _ us hl => match us, hl with | [_], _ => rfl
  have F3 := fun_mk (st := s_L_piece) l3 c3 k3
  have b3 := F3.binds (ps := ["cell", "by", "start"]) fun _ _ _ _ _ _ us hl => match us, hl with | [_, _, _], _ => rfl
  have F4 := fun_mk (st := s_L_due) l4 c4 k4
  have b4 := F4.binds (ps := ["some"]) fun _ _ _ _ _ _ us hl => match us, hl with | [_], _ => rfl
  have F5 := fun_mk (st := s_law) l5 c5 k5
  have b5 := F5.binds (ps := ["script"]) fun _ _ _ _ _ _ us hl => match us, hl with | [_], _ => rfl
  refine ⟨PySem.W.fnOf "law" "law" (defArgs s_law) (defBody s_law) (defScope s_law) .none kV5 dc5 pm5 an5 cd5 ct5, fun s v => .of_eq rfl, fun base _ _ => ?_⟩
  have G0 := ok_faces (P := l.prog) (w := w) (base := base) F0 (PySem.W.mg_of X G a0) b0 B sem_faces
  have G1 := ok_L_cell_at (P := l.prog) (w := w) (base := base) F1 (PySem.W.mg_of X G a1) b1 B sem_L_cell_at
  have G2 := ok_L_whole (P := l.prog) (w := w) (base := base) F2 (PySem.W.mg_of X G a2) b2 B sem_L_whole
  have G3 := ok_L_piece (P := l.prog) (w := w) (base := base) F3 (PySem.W.mg_of X G a3) b3 B sem_L_piece
  have G4 := ok_L_due (P := l.prog) (w := w) (base := base) F4 (PySem.W.mg_of X G a4) b4 B sem_L_due
  exact law_fn (fn_law F5 B G1 G3 G0 G2 G4 sem_law) S_law_of
end Py
open PySem PySem.W PyProof.Rows in
set_option maxRecDepth 100000 in
set_option maxHeartbeats 0 in
theorem PySem.Challenge.cw_stakefield_k28_faces_holds : PySem.Challenge.rw_stakefield_k28_faces.Holds := by
  w_on; o_law; k_head; (case hw => w_witness2)
  k_fill
  refine DL.walk_dl (l := PySem.Challenge.rw_stakefield_k28_faces) (k := 2) ⟨rfl, by decide, by decide⟩ rfl rfl (fun w h Y => PySem.W.kIn_of Y) ?F
  case F =>
    intro w mg fa h KX G hmg
    refine' Py.all_mk KX G hmg ?a0 ?l0 ?c0 ?k0 ?a1 ?l1 ?c1 ?k1 ?a2 ?l2 ?c2 ?k2 ?a3 ?l3 ?c3 ?k3 ?a4 ?l4 ?c4 ?k4 ?a5 ?l5 ?c5 ?k5 ?zbool_ ?zint_ ?zisinstance_ ?zlen_ ?zlist_ ?zmax_ ?zmin_ ?zrange_ ?zset_ ?zsorted_ ?ztuple_
    (case a0 => k_is)
    (case l0 => k_is)
    (case c0 => k_is)
    (case k0 => k_is)
    (case a1 => k_is)
    (case l1 => k_is)
    (case c1 => k_is)
    (case k1 => k_is)
    (case a2 => k_is)
    (case l2 => k_is)
    (case c2 => k_is)
    (case k2 => k_is)
    (case a3 => k_is)
    (case l3 => k_is)
    (case c3 => k_is)
    (case k3 => k_is)
    (case a4 => k_is)
    (case l4 => k_is)
    (case c4 => k_is)
    (case k4 => k_is)
    (case a5 => k_is)
    (case l5 => k_is)
    (case c5 => k_is)
    (case k5 => k_is)
    (case zbool_ => k_is)
    (case zint_ => k_is)
    (case zisinstance_ => k_is)
    (case zlen_ => k_is)
    (case zlist_ => k_is)
    (case zmax_ => k_is)
    (case zmin_ => k_is)
    (case zrange_ => k_is)
    (case zset_ => k_is)
    (case zsorted_ => k_is)
    (case ztuple_ => k_is)
#print axioms PySem.Challenge.cw_stakefield_k28_faces_holds
