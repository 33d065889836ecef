import PyProof.Rows.All
import Wide.All
import OpenK.AllK
import Wide.FinOn
import HandS.ForMost
import HandS.ForExc
import HandS.CallSlots
import HandS.EndBits
import HandS.Wide
import HandS.Style
import HandS.TupLe
import KE.KDictKeyed
import HandS.TupAny
import HandS.TryOnly
import HandS.IsInst
import HandS.Deep
import HandS.WideBits
import HandS.ExcIs
import HandS.Rev
import HandS.Zip
import KE.DataMinMax
import KE.SortData
import HandS.TupSets
import HandS.TupMul
import HandS.Defaults
import KE.RegKIsAll
import KE.RegKTryMore
import HandS.Comp
import PySem.Challenge.RW_stakefield_k10_refused_fields
set_option Elab.async false
set_option linter.all false
set_option autoImplicit false
set_option maxRecDepth 100000
set_option exponentiation.threshold 3000000
set_option maxHeartbeats 1000000
/-! The data layer: what an expression or a statement does, told over data (Dat) and slots (Sl) alone. -/
namespace DL
open PySem PySem.Spec PyProof.Rows L2
variable {K : PySem.W.Frag}

inductive Dat where
  | non | bl (b : Bool) | int (i : Int) | str (x : Str) | tup (ds : List Dat) | lst (ds : List Dat) | dic (kvs : List (Key × V))

mutual
def RdD (K : PySem.W.Frag) (G : Hp) : Dat → V → Prop
  | .non, v => v = .non
  | .bl b, v => v = .bl b
  | .int i, v => v = .int i
  | .str x, v => v = .str x
  | .tup ds, v => ∃ a vs, v = .ref a ∧ G a = some (.tup vs) ∧ RdL K G ds vs
  | .lst ds, v => ∃ a vs, v = .ref a ∧ SqL K G a vs ∧ RdL K G ds vs
  | .dic kvs, v => ∃ a, v = .ref a ∧ G a = some (.dK kvs)
def RdL (K : PySem.W.Frag) (G : Hp) : List Dat → List V → Prop
  | [], vs => vs = []
  | d :: ds, vs => ∃ v r, vs = v :: r ∧ RdD K G d v ∧ RdL K G ds r
end

theorem rd_mono {G G' : Hp} {a : Addr} {vs : List V} (s : Same G G') (h : SqL K G a vs) : SqL K G' a vs := s.seq h
theorem sq_of {G : Hp} {a : Addr} {vs : List V} (h : G a = some (.lst vs)) : SqL K G a vs := .inl (.inl h)
mutual
theorem RdD.mono {G G' : Hp} (s : Same G G') : ∀ (d : Dat) (v : V), RdD K G d v → RdD K G' d v
  | .non, _, h => h
  | .bl _, _, h => h
  | .int _, _, h => h
  | .str _, _, h => h
  | .tup ds, v, h => by
    unfold RdD at h ⊢
    obtain ⟨a, vs, e, g, r⟩ := h
    exact ⟨a, vs, e, s _ _ g, RdL.mono s ds vs r⟩
  | .lst ds, v, h => by
    unfold RdD at h ⊢
    obtain ⟨a, vs, e, g, r⟩ := h
    exact ⟨a, vs, e, rd_mono s g, RdL.mono s ds vs r⟩
  | .dic kvs, v, h => by
    unfold RdD at h ⊢
    obtain ⟨a, e, g⟩ := h
    exact ⟨a, e, s _ _ g⟩
theorem RdL.mono {G G' : Hp} (s : Same G G') : ∀ (ds : List Dat) (vs : List V), RdL K G ds vs → RdL K G' ds vs
  | [], _, h => h
  | d :: ds, vs, h => by
    unfold RdL at h ⊢
    obtain ⟨v, r, e, h1, h2⟩ := h
    exact ⟨v, r, e, RdD.mono s d v h1, RdL.mono s ds r h2⟩
end
theorem RdL.nil {G : Hp} : RdL K G [] [] := by unfold RdL; rfl
theorem RdL.cons {G : Hp} {d : Dat} {v : V} {ds : List Dat} {vs : List V} (h : RdD K G d v) (t : RdL K G ds vs) : RdL K G (d :: ds) (v :: vs) := by
  unfold RdL; exact ⟨v, vs, rfl, h, t⟩
theorem RdL.len {G : Hp} : ∀ {ds : List Dat} {vs : List V}, RdL K G ds vs → ds.length = vs.length
  | [], vs, h => by
    unfold RdL at h; rw [h]; rfl
  | d :: ds, vs, h => by
    unfold RdL at h
    obtain ⟨v, r, e, _, h2⟩ := h
    rw [e, List.length_cons, List.length_cons, RdL.len h2]
theorem RdL.get {G : Hp} : ∀ {ds : List Dat} {vs : List V} {i : Nat} {d : Dat}, RdL K G ds vs → ds[i]? = some d → ∃ v, vs[i]? = some v ∧ RdD K G d v
  | [], _, _, _, _, e => by simp at e
  | d :: ds, vs, i, x, h, e => by
    unfold RdL at h
    obtain ⟨v, r, rfl, h1, h2⟩ := h
    cases i with
    | zero => simp at e; subst e; exact ⟨v, rfl, h1⟩
    | succ i => simpa using RdL.get h2 (by simpa using e)
theorem RdL.getV {G : Hp} : ∀ {ds : List Dat} {vs : List V} {i : Nat} {v : V}, RdL K G ds vs → vs[i]? = some v → ∃ d, ds[i]? = some d ∧ RdD K G d v
  | [], vs, _, _, h, e => by unfold RdL at h; subst h; simp at e
  | d :: ds, vs, i, x, h, e => by
    unfold RdL at h
    obtain ⟨v, r, rfl, h1, h2⟩ := h
    cases i with
    | zero => simp at e; subst e; exact ⟨d, rfl, h1⟩
    | succ i => simpa using RdL.getV h2 (by simpa using e)
theorem RdL.append {G : Hp} : ∀ {ds es : List Dat} {vs ws : List V}, RdL K G ds vs → RdL K G es ws → RdL K G (ds ++ es) (vs ++ ws)
  | [], _, vs, _, h, k => by unfold RdL at h; subst h; exact k
  | d :: ds, es, vs, ws, h, k => by
    unfold RdL at h
    obtain ⟨v, r, rfl, h1, h2⟩ := h
    exact RdL.cons h1 (RdL.append h2 k)
theorem RdL.take {G : Hp} : ∀ {ds : List Dat} {vs : List V} (n : Nat), RdL K G ds vs → RdL K G (ds.take n) (vs.take n)
  | [], vs, n, h => by unfold RdL at h; subst h; simpa using RdL.nil
  | d :: ds, vs, 0, h => by simpa using RdL.nil
  | d :: ds, vs, n + 1, h => by
    unfold RdL at h
    obtain ⟨v, r, rfl, h1, h2⟩ := h
    simpa using RdL.cons h1 (RdL.take n h2)
theorem RdL.drop {G : Hp} : ∀ {ds : List Dat} {vs : List V} (n : Nat), RdL K G ds vs → RdL K G (ds.drop n) (vs.drop n)
  | [], vs, n, h => by unfold RdL at h; subst h; simpa using RdL.nil
  | d :: ds, vs, 0, h => by simpa using h
  | d :: ds, vs, n + 1, h => by
    unfold RdL at h
    obtain ⟨v, r, rfl, h1, h2⟩ := h
    simpa using RdL.drop n h2
theorem RdL.dropLast {G : Hp} {ds : List Dat} {vs : List V} (h : RdL K G ds vs) : RdL K G ds.dropLast vs.dropLast := by
  rw [List.dropLast_eq_take, List.dropLast_eq_take, h.len]
  exact h.take _
theorem RdL.reverse {G : Hp} : ∀ {ds : List Dat} {vs : List V}, RdL K G ds vs → RdL K G ds.reverse vs.reverse
  | [], vs, h => by unfold RdL at h; subst h; exact RdL.nil
  | d :: ds, vs, h => by
    unfold RdL at h
    obtain ⟨v, r, rfl, h1, h2⟩ := h
    rw [List.reverse_cons, List.reverse_cons]
    exact RdL.append (RdL.reverse h2) (RdL.cons h1 RdL.nil)
theorem RdL.set {G : Hp} : ∀ {ds : List Dat} {vs : List V} (n : Nat) {d : Dat} {v : V}, RdL K G ds vs → RdD K G d v → RdL K G (ds.set n d) (vs.set n v)
  | [], vs, n, _, _, h, _ => by unfold RdL at h; subst h; simpa using RdL.nil
  | d :: ds, vs, n, x, w, h, k => by
    unfold RdL at h
    obtain ⟨v, r, rfl, h1, h2⟩ := h
    cases n with
    | zero => simpa using RdL.cons k h2
    | succ n => simpa using RdL.cons h1 (RdL.set n h2 k)
theorem RdL.ints {G : Hp} : ∀ (ns : List Int), RdL K G (ns.map Dat.int) (ns.map V.int)
  | [] => RdL.nil
  | n :: ns => RdL.cons (by unfold RdD; rfl) (RdL.ints ns)

/-- the tracked heap and the part that stays grow; what is new there is fresh -/
structure Ext (H G H' G' : Hp) : Prop where
  h : Same H H'
  g : Same G G'
  s : Same G' H'
  f : ∀ a, H a ≠ none → G a = none → G' a = none
theorem Ext.refl {H G : Hp} (s : Same G H) : Ext H G H G := ⟨Same.refl _, Same.refl _, s, fun _ _ h => h⟩
theorem Ext.trans {H G H1 G1 H2 G2 : Hp} (a : Ext H G H1 G1) (b : Ext H1 G1 H2 G2) : Ext H G H2 G2 :=
  ⟨a.h.trans b.h, a.g.trans b.g, b.s, fun x hx hg => b.f x (fun z => hx (a.h.free z)) (a.f x hx hg)⟩
theorem same_upd {H : Hp} {a : Addr} {o : HO} (n : H a = none) : Same H (upd H a o) := fun b u e => by rw [upd_ne (ne_of_none e n)]; exact e
theorem same_upd2 {G H : Hp} {a : Addr} {o : HO} (s : Same G H) (e : H a = some o) : Same (upd G a o) H := fun b u h => by
  by_cases hb : b = a
  · subst hb; rw [upd_same] at h; rw [← h]; exact e
  · rw [upd_ne hb] at h; exact s _ _ h
/-- a new object, put into the part that stays -/
theorem Ext.newG {H G : Hp} {p : Addr} {o : HO} (s : Same G H) (n : H p = none) : Ext H G (upd H p o) (upd G p o) := by
  refine ⟨same_upd n, same_upd (s.free n), fun b u h => ?_, fun a ha hg => ?_⟩
  · by_cases hb : b = p
    · subst hb; rw [upd_same] at h ⊢; exact h
    · rw [upd_ne hb] at h ⊢; exact s _ _ h
  · have : a ≠ p := fun e => ha (by rw [e]; exact n)
    rw [upd_ne this]; exact hg
/-- a new object that is held apart -/
theorem Ext.newH {H G : Hp} {p : Addr} {o : HO} (s : Same G H) (n : H p = none) : Ext H G (upd H p o) G :=
  ⟨same_upd n, Same.refl _, s.trans (same_upd n), fun _ _ h => h⟩
/-- an object that was made since is put into the part that stays -/
theorem Ext.put {H G H' G' : Hp} {p : Addr} {o : HO} (x : Ext H G H' G') (n : H p = none) (e : H' p = some o) (g : G' p = none) : Ext H G H' (upd G' p o) ∧ Same G' (upd G' p o) := by
  refine ⟨⟨x.h, x.g.trans (same_upd g), same_upd2 x.s e, fun a ha hg => ?_⟩, same_upd g⟩
  have : a ≠ p := fun z => ha (by rw [z]; exact n)
  rw [upd_ne this]; exact x.f a ha hg

inductive Sl where
  | un | fz (d : Dat) | ow (ds : List Dat) | br (ds : List Dat) | adr (a : Addr) | dc (a : Addr) (kvs : List (Dat × V))
/-! own dicts: their keys are tuples of ints, and of such tuples -/
mutual
def nkD : Dat → NestedKey
  | .non => .none
  | .bl b => .num (if b = true then 1 else 0)
  | .int i => .num i
  | .str x => .text x
  | .tup ds => .tup (nkL ds)
  | .lst _ => .none
  | .dic _ => .none
def nkL : List Dat → List NestedKey
  | [] => []
  | d :: ds => nkD d :: nkL ds
end
mutual
def kOk : Nat → Dat → Bool
  | _, .int _ => true
  | n + 1, .tup ds => kOkL n ds
  | _, _ => false
def kOkL : Nat → List Dat → Bool
  | _, [] => true
  | n, d :: ds => kOk n d && kOkL n ds
end
/-- the dict at a, its object's entries being es -/
def rawO (a : Addr) (es : Array DictEntry) : HO := .ext fun h => ∃ o ep, h.get? a = some o ∧ o.ExactDict ∧ o.data = .dict es ep
def DcK (K : PySem.W.Frag) (G : Hp) (p : Dat × V) (x : NestedKey × Addr × Value) : Prop := nkD p.1 = x.1 ∧ kOk 6 p.1 = true ∧ RdD K G p.1 (.ref x.2.1) ∧ RelV p.2 x.2.2
def DcR (K : PySem.W.Frag) (G H : Hp) (a : Addr) (kvs : List (Dat × V)) : Prop :=
  ∃ (xs : List (NestedKey × Addr × Value)) (es : Array DictEntry), H a = some (rawO a es) ∧ (∀ w : World, es.toList = xs.map fun x => ⟨x.1.hash w, .ref x.2.1, x.2.2⟩) ∧ Paired (DcK K G) kvs xs ∧ (xs.map (·.1)).Nodup ∧ xs.length ≤ sizeLine ∧ (a == sysModules) = false
/-- what an expression gives: data; a new list; a list that stands (the caller's; one's own) -/
inductive Rv where
  | v (x : Dat) | n (ds : List Dat) | b (ds : List Dat) | o (ds : List Dat)
def Rv.dat : Rv → Dat
  | .v x => x
  | .n ds => .lst ds
  | .b ds => .lst ds
  | .o ds => .lst ds

/-- what may be handed back -/
def retOk : Rv → Bool
  | .o _ => false
  | .b _ => false
  | _ => true
def SlR (K : PySem.W.Frag) (H0 G H : Hp) : Sl → Option (Option V) → Prop
  | .un, _ => True
  | .fz d, o => ∃ v, o = some (some v) ∧ RdD K G d v
  | .ow ds, o => ∃ l vs, o = some (some (.ref l)) ∧ H l = some (.lst vs) ∧ RdL K G ds vs ∧ G l = none ∧ H0 l = none
  | .br ds, o => ∃ l vs, o = some (some (.ref l)) ∧ SqL K H0 l vs ∧ RdL K G ds vs
  | .adr a, o => o = some (some (.ref a))
  | .dc a kvs, o => o = some (some (.ref a)) ∧ DcR K G H a kvs ∧ G a = none ∧ H0 a = none
theorem DcR.mono {K : PySem.W.Frag} {G G' H H' : Hp} {a : Addr} {kvs : List (Dat × V)} (x : DcR K G H a kvs) (g : Same G G') (h : ∀ o, H a = some o → H' a = some o) : DcR K G' H' a kvs := by
  obtain ⟨xs, es, e1, e2, e3, e4⟩ := x
  exact ⟨xs, es, h _ e1, e2, L2.Paired.mapP e3 fun p x z => ⟨z.1, z.2.1, RdD.mono g _ _ z.2.2.1, z.2.2.2⟩, e4⟩
theorem DcR.at {K : PySem.W.Frag} {G H : Hp} {a : Addr} {kvs : List (Dat × V)} (x : DcR K G H a kvs) : ∃ es, H a = some (rawO a es) := let ⟨_, es, e, _⟩ := x; ⟨es, e⟩
structure Rel (K : PySem.W.Frag) (H0 G0 G : Hp) (ρ : List Sl) (σ : L2.St) (H : Hp) : Prop where
  ext : Ext H0 G0 H G
  len : ρ.length = σ.length
  sl : ∀ (i : Nat) (s : Sl), ρ[i]? = some s → SlR K H0 G H s σ[i]?
  inj : ∀ (i j : Nat) (ds es : List Dat) (l : Addr), ρ[i]? = some (.ow ds) → ρ[j]? = some (.ow es) → σ[i]? = some (some (.ref l)) → σ[j]? = some (some (.ref l)) → i = j
def RvR (K : PySem.W.Frag) (H0 G H H' : Hp) : Rv → V → Prop
  | .v x, v => RdD K G x v
  | .n ds, v => ∃ l vs, v = .ref l ∧ H' l = some (.lst vs) ∧ RdL K G ds vs ∧ H l = none ∧ G l = none
  | .b ds, v => ∃ l vs, v = .ref l ∧ SqL K H0 l vs ∧ RdL K G ds vs
  | .o ds, v => ∃ l vs, v = .ref l ∧ H' l = some (.lst vs) ∧ RdL K G ds vs
theorem RvR.back {H0 G H H1 H' : Hp} {r : Rv} {v : V} (s : Same H H1) (h : RvR K H0 G H1 H' r v) : RvR K H0 G H H' r v := by
  cases r with
  | v x => exact h
  | n ds => obtain ⟨l, vs, a, b, c, d, e⟩ := h; exact ⟨l, vs, a, b, c, s.free d, e⟩
  | b ds => exact h
  | o ds => exact h
theorem RvR.on {H0 G H H1 G' H2 : Hp} {r : Rv} {v : V} (x : Ext H1 G H2 G') (h : RvR K H0 G H H1 r v) : RvR K H0 G' H H2 r v := by
  cases r with
  | v d => exact RdD.mono x.g _ _ h
  | n ds =>
    obtain ⟨l, vs, a, b, c, d, e⟩ := h
    exact ⟨l, vs, a, x.h _ _ b, c.mono x.g, d, x.f l (by rw [b]; exact fun z => nomatch z) e⟩
  | b ds => obtain ⟨l, vs, a, b, c⟩ := h; exact ⟨l, vs, a, b, c.mono x.g⟩
  | o ds => obtain ⟨l, vs, a, b, c⟩ := h; exact ⟨l, vs, a, x.h _ _ b, c.mono x.g⟩
/-- as data of the whole heap -/
theorem RvR.read {H0 G H H' : Hp} {r : Rv} {v : V} (s : Same G H') (s0 : Same H0 H') (h : RvR K H0 G H H' r v) : RdD K H' r.dat v := by
  cases r with
  | v d => exact RdD.mono s _ _ h
  | n ds => obtain ⟨l, vs, a, b, c, d, e⟩ := h; show RdD K H' (.lst ds) v; unfold RdD; exact ⟨l, vs, a, sq_of b, c.mono s⟩
  | b ds => obtain ⟨l, vs, a, b, c⟩ := h; show RdD K H' (.lst ds) v; unfold RdD; exact ⟨l, vs, a, rd_mono s0 b, c.mono s⟩
  | o ds => obtain ⟨l, vs, a, b, c⟩ := h; show RdD K H' (.lst ds) v; unfold RdD; exact ⟨l, vs, a, sq_of b, c.mono s⟩
/-- a list, whichever: where it stands, its items in the part that stays -/
theorem RvR.lst {H0 G H H' : Hp} {r : Rv} {v : V} {ds : List Dat} (s : Same G H') (s0 : Same H0 H') (h : RvR K H0 G H H' r v) (e : r.dat = .lst ds) : ∃ l vs, v = .ref l ∧ SqL K H' l vs ∧ RdL K G ds vs := by
  cases r with
  | v d =>
    have e : d = .lst ds := e
    subst e
    have h : RdD _ G (.lst ds) v := h
    unfold RdD at h
    obtain ⟨l, vs, a, b, c⟩ := h
    exact ⟨l, vs, a, rd_mono s b, c⟩
  | n es => obtain ⟨l, vs, a, b, c, d, f⟩ := h; injection e with e; subst e; exact ⟨l, vs, a, sq_of b, c⟩
  | b es => obtain ⟨l, vs, a, b, c⟩ := h; injection e with e; subst e; exact ⟨l, vs, a, rd_mono s0 b, c⟩
  | o es => obtain ⟨l, vs, a, b, c⟩ := h; injection e with e; subst e; exact ⟨l, vs, a, sq_of b, c⟩
theorem Rel.on {H0 G0 G G' H H' : Hp} {ρ : List Sl} {σ : L2.St} (R : Rel K H0 G0 G ρ σ H) (x : Ext H G H' G') : Rel K H0 G0 G' ρ σ H' := by
  refine ⟨R.ext.trans x, R.len, fun i s e => ?_, R.inj⟩
  have h := R.sl i s e
  cases s with
  | un => trivial
  | fz d => obtain ⟨v, a, b⟩ := h; exact ⟨v, a, RdD.mono x.g _ _ b⟩
  | ow ds =>
    obtain ⟨l, vs, a, b, c, d, e⟩ := h
    exact ⟨l, vs, a, x.h _ _ b, c.mono x.g, x.f l (by rw [b]; exact fun z => nomatch z) d, e⟩
  | br ds => obtain ⟨l, vs, a, b, c⟩ := h; exact ⟨l, vs, a, b, c.mono x.g⟩
  | adr a => exact h
  | dc a kvs =>
    obtain ⟨e1, e2, e3, e4⟩ := h
    obtain ⟨es, ea⟩ := e2.at
    exact ⟨e1, e2.mono x.g fun o => x.h _ _, x.f a (by rw [ea]; exact fun z => nomatch z) e3, e4⟩

/-! ### judgements -/
abbrev DE := List Sl → (Rv → Prop) → (Str → Prop) → Prop
abbrev DA := List Sl → (List Rv → Prop) → (Str → Prop) → Prop
abbrev DT := List Sl → (Bool → Prop) → (Str → Prop) → Prop
structure DEnds where
  nx : List Sl → Prop
  rt : Rv → Prop
  bk : List Sl → Prop
  ct : List Sl → Prop
  ex : Str → List Sl → Prop
abbrev DS := DEnds → List Sl → Prop

abbrev MG := Str → Option Value
/-- what is wished of an exception -/
def XOk (mg : MG) (W : WX) (H G : Hp) (σ : L2.St) (ε : Str → Prop) : Prop := ∀ nm cls H' G', Ext H G H' G' → mg nm = some cls → ε nm → W cls none σ H'
theorem XOk.on {mg : MG} {W : WX} {H G H1 G1 : Hp} {σ : L2.St} {ε : Str → Prop} (x : XOk mg W H G σ ε) (e : Ext H G H1 G1) : XOk mg W H1 G1 σ ε :=
  fun nm cls H' G' e' h k => x nm cls H' G' (e.trans e') h k
def EOk (K : PySem.W.Frag) (mg : MG) (W : WX) (t : TE) (δ : DE) : Prop := ∀ H0 G0 G ρ σ H (Q : VK) κ ε, Rel K H0 G0 G ρ σ H → δ ρ κ ε →
  (∀ v H' G' r, Ext H G H' G' → RvR K H0 G' H H' r v → κ r → Q v H') → XOk mg W H G σ ε → t σ H Q
def TOk (K : PySem.W.Frag) (mg : MG) (W : WX) (t : TT) (δ : DT) : Prop := ∀ H0 G0 G ρ σ H (Q : Bool → Hp → Prop) κ ε, Rel K H0 G0 G ρ σ H → δ ρ κ ε →
  (∀ b H' G', Ext H G H' G' → κ b → Q b H') → XOk mg W H G σ ε → t σ H Q
def RvsR (K : PySem.W.Frag) (H0 G H H' : Hp) : List Rv → List V → Prop
  | [], vs => vs = []
  | r :: rs, vs => ∃ v w, vs = v :: w ∧ RvR K H0 G H H' r v ∧ RvsR K H0 G H H' rs w
def AOk (K : PySem.W.Frag) (mg : MG) (W : WX) (t : TA) (δ : DA) : Prop := ∀ H0 G0 G ρ σ H (Q : List V → Hp → Prop) κ ε, Rel K H0 G0 G ρ σ H → δ ρ κ ε →
  (∀ vs H' G' rs, Ext H G H' G' → RvsR K H0 G' H H' rs vs → κ rs → Q vs H') → XOk mg W H G σ ε → t σ H Q
structure EndsOk (K : PySem.W.Frag) (mg : MG) (W : WX) (H0 G0 : Hp) (D : Ends) (κ : DEnds) : Prop where
  nx : ∀ ρ σ H G, Rel K H0 G0 G ρ σ H → κ.nx ρ → D.nx σ H
  bk : ∀ ρ σ H G, Rel K H0 G0 G ρ σ H → κ.bk ρ → D.bk σ H
  ct : ∀ ρ σ H G, Rel K H0 G0 G ρ σ H → κ.ct ρ → D.ct σ H
  rt : ∀ v H G r, Ext H0 G0 H G → RvR K H0 G H0 H r v → retOk r = true → κ.rt r → D.rt v H
  ex : ∀ nm cls ρ σ H G, Rel K H0 G0 G ρ σ H → mg nm = some cls → κ.ex nm ρ → W cls none σ H
def SOk (K : PySem.W.Frag) (mg : MG) (W : WX) (t : TS) (δ : DS) : Prop := ∀ H0 G0 G ρ σ H (D : Ends) κ, Rel K H0 G0 G ρ σ H → δ κ ρ → EndsOk K mg W H0 G0 D κ → t D σ H
/-- the wish of exceptions at an expression of a statement -/
theorem EndsOk.xok {mg : MG} {W : WX} {H0 G0 G H : Hp} {ρ : List Sl} {σ : L2.St} {D : Ends} {κ : DEnds} (E : EndsOk K mg W H0 G0 D κ) (R : Rel K H0 G0 G ρ σ H) : XOk mg W H G σ (fun nm => κ.ex nm ρ) :=
  fun nm cls H' G' x h k => E.ex nm cls ρ σ H' G' (R.on x) h k

structure ME (X : Cx) (W : WX) (e : Expr) (δ : DE) : Prop where
  ex : ∃ t, PE X e t ∧ EOk X.K X.mg W t δ
structure MT (X : Cx) (W : WX) (e : Expr) (δ : DT) : Prop where
  ex : ∃ t, PT X e t ∧ TOk X.K X.mg W t δ
structure MA (X : Cx) (W : WX) (es : List Expr) (δ : DA) : Prop where
  ex : ∃ t, PA X es t ∧ AOk X.K X.mg W t δ
structure MS (X : Cx) (W : WX) (s : Stmt) (δ : DS) : Prop where
  ex : ∃ t, PS X s t ∧ SOk X.K X.mg W t δ
structure MSs (X : Cx) (W : WX) (s : List Stmt) (δ : DS) : Prop where
  ex : ∃ t, PSs X s t ∧ SOk X.K X.mg W t δ
end DL
namespace DL
open PySem PySem.Spec PyProof.Rows L2
variable {K : PySem.W.Frag}

/-! ### combinators -/
def dVar (i : Nat) : DE := fun ρ κ _ => match ρ[i]? with
  | some (.fz d) => κ (.v d)
  | some (.ow ds) => κ (.o ds)
  | some (.br ds) => κ (.b ds)
  | _ => False
def dC (d : Dat) : DE := fun _ κ _ => κ (.v d)
/-- two in a row, then what is made of both -/
def dBin (k : Rv → Rv → (Rv → Prop) → (Str → Prop) → Prop) (a b : DE) : DE := fun ρ κ ε => a ρ (fun x => b ρ (fun y => k x y κ ε) ε) ε
def dUn (k : Rv → (Rv → Prop) → (Str → Prop) → Prop) (a : DE) : DE := fun ρ κ ε => a ρ (fun x => k x κ ε) ε
def asI (r : Rv) (k : Int → Prop) : Prop := match r with
  | .v (.int i) => k i
  | _ => False
def asB (r : Rv) (k : Bool → Prop) : Prop := match r with
  | .v (.bl i) => k i
  | _ => False
def asL (r : Rv) (k : List Dat → Prop) : Prop := match r.dat with
  | .lst ds => k ds
  | _ => False
/-- list or tuple -/
def asQ (r : Rv) (k : List Dat → Prop) : Prop := match r.dat with
  | .lst ds => k ds
  | .tup ds => k ds
  | _ => False
/-- of a thing that must be there -/
inductive onS {α : Type} (o : Option α) (k : α → Prop) : Prop where
  | mk (x : α) (e : o = some x) (h : k x) : onS o k
theorem onS_some {α : Type} {o : Option α} {x : α} {k : α → Prop} (e : o = some x) (h : k x) : onS o k := .mk x e h
theorem onS.of {α : Type} {o : Option α} {k : α → Prop} (h : onS o k) : ∃ x, o = some x ∧ k x := by
  cases h with
  | mk x e h => exact ⟨x, e, h⟩
theorem asI.of {r : Rv} {k : Int → Prop} (h : asI r k) : ∃ i, r = .v (.int i) ∧ k i := by
  unfold asI at h
  split at h
  · exact ⟨_, rfl, h⟩
  · exact h.elim
theorem asB.of {r : Rv} {k : Bool → Prop} (h : asB r k) : ∃ i, r = .v (.bl i) ∧ k i := by
  unfold asB at h
  split at h
  · exact ⟨_, rfl, h⟩
  · exact h.elim
theorem asL.of {r : Rv} {k : List Dat → Prop} (h : asL r k) : ∃ ds, r.dat = .lst ds ∧ k ds := by
  unfold asL at h
  split at h
  · rename_i e; exact ⟨_, e, h⟩
  · exact h.elim
theorem asQ.of {r : Rv} {k : List Dat → Prop} (h : asQ r k) : ∃ ds, (r.dat = .lst ds ∨ r.dat = .tup ds) ∧ k ds := by
  unfold asQ at h
  split at h
  · rename_i e; exact ⟨_, .inl e, h⟩
  · rename_i e; exact ⟨_, .inr e, h⟩
  · exact h.elim

/-- what an operation on two values does, over data -/
def Op2 (K : PySem.W.Frag) (r : R2) (k : Rv → Rv → (Rv → Prop) → (Str → Prop) → Prop) : Prop :=
  ∀ (H0 G Hs H : Hp) (x y : Rv) (v u : V) (Q : VK) (κ : Rv → Prop) (ε : Str → Prop), Same G H → Same H0 H → Same Hs H → RvR K H0 G Hs H x v → RvR K H0 G Hs H y u → k x y κ ε →
    (∀ w H' G' z, Ext H G H' G' → RvR K H0 G' H H' z w → κ z → Q w H') → r v u H Q
def Op1 (K : PySem.W.Frag) (r : V → Hp → VK → Prop) (k : Rv → (Rv → Prop) → (Str → Prop) → Prop) : Prop :=
  ∀ (H0 G Hs H : Hp) (x : Rv) (v : V) (Q : VK) (κ : Rv → Prop) (ε : Str → Prop), Same G H → Same H0 H → Same Hs H → RvR K H0 G Hs H x v → k x κ ε →
    (∀ w H' G' z, Ext H G H' G' → RvR K H0 G' H H' z w → κ z → Q w H') → r v H Q

section
variable {mg : MG} {W : WX} {ta tb : TE} {a b : DE}
theorem eok_bin {r : R2} {k : Rv → Rv → (Rv → Prop) → (Str → Prop) → Prop} (ha : EOk K mg W ta a) (hb : EOk K mg W tb b) (hr : Op2 K r k) : EOk K mg W (tOp r ta tb) (dBin k a b) := by
  intro H0 G0 G ρ σ H Q κ ε R h hq hx
  refine ha H0 G0 G ρ σ H _ _ ε R h (fun v H1 G1 x e1 r1 h1 => ?_) hx
  have R1 := R.on e1
  refine hb H0 G0 G1 ρ σ H1 _ _ ε R1 h1 (fun u H2 G2 y e2 r2 h2 => ?_) (hx.on e1)
  have R2 := R1.on e2
  have e := e1.trans e2
  refine hr H0 G2 H H2 x y v u Q κ ε e2.s R2.ext.h e.h (r1.on e2) (r2.back e1.h) h2 (fun w H' G' z e3 r3 h3 => ?_)
  exact hq w H' G' z (e.trans e3) (r3.back e.h) h3
theorem eok_un {r : V → Hp → VK → Prop} {k : Rv → (Rv → Prop) → (Str → Prop) → Prop} (ha : EOk K mg W ta a) (hr : Op1 K r k) : EOk K mg W (tUn r ta) (dUn k a) := by
  intro H0 G0 G ρ σ H Q κ ε R h hq hx
  refine ha H0 G0 G ρ σ H _ _ ε R h (fun v H1 G1 x e1 r1 h1 => ?_) hx
  have R1 := R.on e1
  refine hr H0 G1 H H1 x v Q κ ε e1.s R1.ext.h e1.h r1 h1 (fun w H' G' z e3 r3 h3 => ?_)
  exact hq w H' G' z (e1.trans e3) (r3.back e1.h) h3
theorem eok_var (i : Nat) : EOk K mg W (tVar i) (dVar i) := by
  intro H0 G0 G ρ σ H Q κ ε R h hq hx
  unfold dVar at h
  have x := Ext.refl R.ext.s
  split at h
  · rename_i d e
    obtain ⟨v, e1, e2⟩ := R.sl _ _ e
    exact ⟨v, e1, hq v H G (.v d) x e2 h⟩
  · rename_i d e
    obtain ⟨l, vs, e1, e2, e3, e4, e5⟩ := R.sl _ _ e
    exact ⟨.ref l, e1, hq _ H G (.o d) x ⟨l, vs, rfl, e2, e3⟩ h⟩
  · rename_i d e
    obtain ⟨l, vs, e1, e2, e3⟩ := R.sl _ _ e
    exact ⟨.ref l, e1, hq _ H G (.b d) x ⟨l, vs, rfl, e2, e3⟩ h⟩
  · exact h.elim
theorem eok_c {v : V} {d : Dat} (hd : ∀ G, RdD K G d v) : EOk K mg W (tC v) (dC d) := by
  intro H0 G0 G ρ σ H Q κ ε R h hq hx
  exact hq v H G (.v d) (Ext.refl R.ext.s) (hd G) h
end

section
variable {X : Cx} {W : WX} {a b c e : Expr} {da db dc : DE} {pos : Pos}
theorem me_var (i : Nat) {x : Str} (hN : X.N[i]? = some x := by rfl) (hv : Vis X.env.scope x := by first | exact Or.inl rfl | exact Or.inr (Or.inl rfl) | exact Or.inr (Or.inr rfl)) (hd : (x == ("__debug__" : Str)) = false := by decide)
    (hcd : (x == ("__classdict__" : Str)) = false := by decide) : ME X W (.Name x pos) (dVar i) := ⟨_, pe_var hN hv hd hcd, eok_var i⟩
theorem me_int {i : Int} {j : Nat} : ME X W (.Constant (.int i) j pos) (dC (.int i)) := ⟨_, pe_int, eok_c fun _ => by unfold RdD; rfl⟩
theorem me_bl {i : Bool} {j : Nat} : ME X W (.Constant (.bool i) j pos) (dC (.bl i)) := ⟨_, pe_bl, eok_c fun _ => by unfold RdD; rfl⟩
theorem me_non {j : Nat} : ME X W (.Constant .none j pos) (dC .non) := ⟨_, pe_non, eok_c fun _ => by unfold RdD; rfl⟩
theorem me_str {x : Str} {j : Nat} : ME X W (.Constant (.str x) j pos) (dC (.str x)) := ⟨_, pe_str, eok_c fun _ => by unfold RdD; rfl⟩
/-- a module's constant, an int -/
theorem me_glob {x : Str} {i : Int} {t : Tok} (hg : Gl X x) (hm : X.mg x = some (.int i t)) (hd : (x == ("__debug__" : Str)) = false := by decide) : ME X W (.Name x pos) (dC (.int i)) := ⟨_, pe_glob (v := .int i) hg hm ⟨t, rfl⟩ hd, eok_c fun _ => by unfold RdD; rfl⟩
theorem me_bin {op : Operator} {r : R2} {k : Rv → Rv → (Rv → Prop) → (Str → Prop) → Prop} (ho : OpR X (binaryOp op) r) (hr : Op2 X.K r k) (ha : ME X W a da) (hb : ME X W b db) : ME X W (.BinOp a op b pos) (dBin k da db) := by
  obtain ⟨ta, pa, oa⟩ := ha
  obtain ⟨tb, pb, ob⟩ := hb
  exact ⟨_, pe_op ho pa pb, eok_bin oa ob hr⟩
theorem me_un {op : UnaryOp} {r : V → Hp → VK → Prop} {k : Rv → (Rv → Prop) → (Str → Prop) → Prop} (ho : UnR X (unaryOp op) r) (hr : Op1 X.K r k) (ha : ME X W a da) : ME X W (.UnaryOp op a pos) (dUn k da) := by
  obtain ⟨ta, pa, oa⟩ := ha
  exact ⟨_, pe_un ho pa, eok_un oa hr⟩
theorem me_cmp {op : CmpOp} {r : R2} {k : Rv → Rv → (Rv → Prop) → (Str → Prop) → Prop} (ho : OpR X (compareOp op) r) (hr : Op2 X.K r k) (ha : ME X W a da) (hb : ME X W b db) (hm : behindInMarks op b = false) : ME X W (.Compare a [op] [b] pos) (dBin k da db) := by
  obtain ⟨ta, pa, oa⟩ := ha
  obtain ⟨tb, pb, ob⟩ := hb
  exact ⟨_, pe_cmpR ho pa pb hm, eok_bin oa ob hr⟩
end

/-! ### operations on ints -/
def kI (C : Int → Int → Prop) (g : Int → Int → Dat) : Rv → Rv → (Rv → Prop) → (Str → Prop) → Prop := fun x y κ _ => asI x fun i => asI y fun j => C i j ∧ κ (.v (g i j))
def kI0 (g : Int → Int → Dat) : Rv → Rv → (Rv → Prop) → (Str → Prop) → Prop := fun x y κ _ => asI x fun i => asI y fun j => κ (.v (g i j))
def kU (g : Int → Dat) : Rv → (Rv → Prop) → (Str → Prop) → Prop := fun x κ _ => asI x fun i => κ (.v (g i))
theorem op2_I {C : Int → Int → Prop} {g : Int → Int → V} {g' : Int → Int → Dat} (hg : ∀ i j G, RdD K G (g' i j) (g i j)) : Op2 K (rI C g) (kI C g') := by
  intro H0 G Hs H x y v u Q κ ε s s0 sh rx ry h q
  obtain ⟨i, rfl, h1⟩ := asI.of h
  obtain ⟨j, rfl, hc, hk⟩ := asI.of h1
  have rx : RdD K G (.int i) v := rx
  have ry : RdD K G (.int j) u := ry
  unfold RdD at rx ry
  exact ⟨i, j, rx, ry, hc, q _ H G (.v (g' i j)) (Ext.refl s) (hg i j G) hk⟩
theorem op2_I0 {g : Int → Int → V} {g' : Int → Int → Dat} (hg : ∀ i j G, RdD K G (g' i j) (g i j)) : Op2 K (rI0 g) (kI0 g') := by
  intro H0 G Hs H x y v u Q κ ε s s0 sh rx ry h q
  obtain ⟨i, rfl, h1⟩ := asI.of h
  obtain ⟨j, rfl, hk⟩ := asI.of h1
  have rx : RdD K G (.int i) v := rx
  have ry : RdD K G (.int j) u := ry
  unfold RdD at rx ry
  exact ⟨i, j, rx, ry, q _ H G (.v (g' i j)) (Ext.refl s) (hg i j G) hk⟩
theorem op1_U {g : Int → V} {g' : Int → Dat} (hg : ∀ i G, RdD K G (g' i) (g i)) : Op1 K (rU g) (kU g') := by
  intro H0 G Hs H x v Q κ ε s s0 sh rx h q
  obtain ⟨i, rfl, hk⟩ := asI.of h
  have rx : RdD K G (.int i) v := rx
  unfold RdD at rx
  exact ⟨i, rx, q _ H G (.v (g' i)) (Ext.refl s) (hg i G) hk⟩
/-- a number of at most so many bits -/
def Sz (k : Nat) (i : Int) : Prop := i.natAbs.log2 < k
def MulOk (i j : Int) : Prop := i.natAbs.log2 + j.natAbs.log2 < 100000000
theorem MulOk.ok {i j : Int} (h : MulOk i j) : IntMulOk i j := by
  have b : ∀ x : Int, Builtin.Int.intBits x ≤ x.natAbs.log2 + 1 := fun x => by
    unfold Builtin.Int.intBits
    split <;> omega
  unfold IntMulOk
  intro z
  rw [Bool.and_eq_true] at z
  obtain ⟨_, z⟩ := z
  unfold Builtin.Int.intTooBig at z
  have z := of_decide_eq_true z
  rw [show bitsLine = 134217728 by decide] at z
  unfold MulOk at h
  have p := b i
  have q := b j
  omega
def DivOk (_ j : Int) : Prop := j ≠ 0 ∧ j.natAbs.log2 < 9000
def DivP (_ j : Int) : Prop := 0 < j ∧ j.natAbs.log2 < 9000
def ModOk (_ j : Int) : Prop := j ≠ 0
def ModP (_ j : Int) : Prop := 0 < j
section
variable {X : Cx}
theorem op_mulD : OpR X (binaryOp .Mult) (rI MulOk fun i j => .int (i * j)) := opI fun _ _ _ _ _ _ _ hc q => mul_int q hc.ok
theorem op_fdivD : OpR X (binaryOp .FloorDiv) (rI DivOk fun i j => .int (i.fdiv j)) := opI fun _ _ _ _ _ _ _ hc q => floordiv_int hc.1 q (.inl (PyProof.noPylong_of_log2 hc.2))
theorem op_fdivP : OpR X (binaryOp .FloorDiv) (rI DivP fun i j => .int (i / j)) := opI fun i j _ _ _ _ _ hc q => by
  have p : 0 < j := hc.1
  refine floordiv_int (Int.ne_of_gt p) ?_ (.inl (PyProof.noPylong_of_log2 hc.2))
  rw [Int.fdiv_eq_ediv_of_nonneg i (Int.le_of_lt p)]; exact q
variable {W : WX} {a b : Expr} {da db : DE} {pos : Pos}
def dAdd := dBin (kI0 fun i j => .int (i + j))
def dSub := dBin (kI0 fun i j => .int (i - j))
def dMul := dBin (kI MulOk fun i j => .int (i * j))
def dDiv := dBin (kI DivOk fun i j => .int (i.fdiv j))
def dMod := dBin (kI ModOk fun i j => .int (i.fmod j))
def dDivP := dBin (kI DivP fun i j => .int (i / j))
def dModP := dBin (kI ModP fun i j => .int (i % j))
def dPow := dBin (kI CPow fun i j => .int (i ^ j.toNat))
def dLt := dBin (kI0 fun i j => .bl (decide (i < j)))
def dLe := dBin (kI0 fun i j => .bl (decide (i ≤ j)))
def dGt := dBin (kI0 fun i j => .bl (decide (j < i)))
def dGe := dBin (kI0 fun i j => .bl (decide (j ≤ i)))
def dEqI := dBin (kI0 fun i j => .bl (decide (i = j)))
def dNeI := dBin (kI0 fun i j => .bl (!decide (i = j)))
def dNeg := dUn (kU fun i => .int (-i))
theorem rdI {f : Int → Int → Int} (i j : Int) (G : Hp) : RdD K G (Dat.int (f i j)) (V.int (f i j)) := by unfold RdD; rfl
theorem rdB {f : Int → Int → Bool} (i j : Int) (G : Hp) : RdD K G (Dat.bl (f i j)) (V.bl (f i j)) := by unfold RdD; rfl
theorem me_add (ha : ME X W a da) (hb : ME X W b db) : ME X W (.BinOp a .Add b pos) (dAdd da db) := me_bin op_add (op2_I0 rdI) ha hb
theorem me_sub (ha : ME X W a da) (hb : ME X W b db) : ME X W (.BinOp a .Sub b pos) (dSub da db) := me_bin op_sub (op2_I0 rdI) ha hb
theorem me_mul (ha : ME X W a da) (hb : ME X W b db) : ME X W (.BinOp a .Mult b pos) (dMul da db) := me_bin op_mulD (op2_I rdI) ha hb
theorem me_div (ha : ME X W a da) (hb : ME X W b db) : ME X W (.BinOp a .FloorDiv b pos) (dDiv da db) := me_bin op_fdivD (op2_I rdI) ha hb
theorem me_divP (ha : ME X W a da) (hb : ME X W b db) : ME X W (.BinOp a .FloorDiv b pos) (dDivP da db) := me_bin op_fdivP (op2_I rdI) ha hb
theorem me_mod (ha : ME X W a da) (hb : ME X W b db) : ME X W (.BinOp a .Mod b pos) (dMod da db) := me_bin op_modN (op2_I (C := ModOk) rdI) ha hb
theorem me_modP (ha : ME X W a da) (hb : ME X W b db) : ME X W (.BinOp a .Mod b pos) (dModP da db) := me_bin op_mod (op2_I (C := ModP) rdI) ha hb
theorem me_pow (ha : ME X W a da) (hb : ME X W b db) : ME X W (.BinOp a .Pow b pos) (dPow da db) := me_bin op_pow (op2_I rdI) ha hb
theorem me_neg (ha : ME X W a da) : ME X W (.UnaryOp .USub a pos) (dNeg da) := me_un un_neg (op1_U fun i G => by unfold RdD; rfl) ha
theorem me_lt (ha : ME X W a da) (hb : ME X W b db) : ME X W (.Compare a [.Lt] [b] pos) (dLt da db) := me_cmp op_lt (op2_I0 rdB) ha hb (nomark _)
theorem me_le (ha : ME X W a da) (hb : ME X W b db) : ME X W (.Compare a [.LtE] [b] pos) (dLe da db) := me_cmp op_le (op2_I0 rdB) ha hb (nomark _)
theorem me_gt (ha : ME X W a da) (hb : ME X W b db) : ME X W (.Compare a [.Gt] [b] pos) (dGt da db) := me_cmp op_gt (op2_I0 rdB) ha hb (nomark _)
theorem me_ge (ha : ME X W a da) (hb : ME X W b db) : ME X W (.Compare a [.GtE] [b] pos) (dGe da db) := me_cmp op_ge (op2_I0 rdB) ha hb (nomark _)
end

/-! ### == of data -/
mutual
def toPy : Dat → PyData
  | .non => .none
  | .bl b => .bool b
  | .int i => .int i
  | .str x => .str x
  | .tup ds => .tuple (toPyL ds)
  | .lst ds => .list (toPyL ds)
  | .dic _ => .none
def toPyL : List Dat → List PyData
  | [] => []
  | d :: ds => toPy d :: toPyL ds
end
mutual
/-- no dict within -/
def plainD : Dat → Bool
  | .tup ds => plainDL ds
  | .lst ds => plainDL ds
  | .dic _ => false
  | _ => true
def plainDL : List Dat → Bool
  | [] => true
  | d :: ds => plainD d && plainDL ds
end
mutual
theorem RdD.dp {K : PySem.W.Frag} {H : Hp} : ∀ (d : Dat) (v : V), plainD d = true → RdD K H d v → Dp K H v (toPy d)
  | .non, _, _, h => by unfold RdD at h; subst h; unfold toPy; exact .non
  | .bl b, _, _, h => by unfold RdD at h; subst h; unfold toPy; exact .bl b
  | .int i, _, _, h => by unfold RdD at h; subst h; unfold toPy; exact .int i
  | .str x, _, _, h => by unfold RdD at h; subst h; unfold toPy; exact .str x
  | .tup ds, v, p, h => by
    unfold plainD at p; unfold RdD at h; unfold toPy
    obtain ⟨a, vs, rfl, g, r⟩ := h
    exact .tup (SqT.of g) (RdL.dp ds vs p r)
  | .lst ds, v, p, h => by
    unfold plainD at p; unfold RdD at h; unfold toPy
    obtain ⟨a, vs, rfl, g, r⟩ := h
    exact .lst g (RdL.dp ds vs p r)
  | .dic _, _, p, _ => by unfold plainD at p; exact nomatch p
theorem RdL.dp {K : PySem.W.Frag} {H : Hp} : ∀ (ds : List Dat) (vs : List V), plainDL ds = true → RdL K H ds vs → DpAll K H vs (toPyL ds)
  | [], _, _, h => by unfold RdL at h; subst h; unfold toPyL; exact .nil
  | d :: ds, vs, p, h => by
    unfold plainDL at p; rw [Bool.and_eq_true] at p
    unfold RdL at h; unfold toPyL
    obtain ⟨v, r, rfl, h1, h2⟩ := h
    exact .cons (RdD.dp d v p.1 h1) (RdL.dp ds r p.2 h2)
end
mutual
/-- Python's == of data -/
def eqD : Dat → Dat → Bool
  | .non, .non => true
  | .bl a, .bl b => a == b
  | .bl a, .int j => (if a then 1 else 0) == j
  | .int i, .bl b => i == (if b then 1 else 0)
  | .int i, .int j => i == j
  | .str x, .str y => x == y
  | .tup xs, .tup ys => eqDL xs ys
  | .lst xs, .lst ys => eqDL xs ys
  | _, _ => false
def eqDL : List Dat → List Dat → Bool
  | [], [] => true
  | x :: xs, y :: ys => eqD x y && eqDL xs ys
  | _, _ => false
end
mutual
theorem eqD_py : ∀ a b : Dat, plainD a = true → plainD b = true → eqD a b = PyData.eqv (toPy a) (toPy b) := by
  intro a b ha hb
  cases a with
  | tup xs =>
    cases b with
    | tup ys => unfold plainD at ha hb; unfold eqD toPy PyData.eqv; exact eqDL_py xs ys ha hb
    | dic _ => unfold plainD at hb; exact nomatch hb
    | _ => unfold eqD toPy PyData.eqv; rfl
  | lst xs =>
    cases b with
    | lst ys => unfold plainD at ha hb; unfold eqD toPy PyData.eqv; exact eqDL_py xs ys ha hb
    | dic _ => unfold plainD at hb; exact nomatch hb
    | _ => unfold eqD toPy PyData.eqv; rfl
  | dic _ => unfold plainD at ha; exact nomatch ha
  | _ =>
    cases b with
    | dic _ => unfold plainD at hb; exact nomatch hb
    | _ => unfold eqD toPy PyData.eqv; rfl
theorem eqDL_py : ∀ a b : List Dat, plainDL a = true → plainDL b = true → eqDL a b = PyData.eqvAll (toPyL a) (toPyL b) := by
  intro a b ha hb
  cases a with
  | nil =>
    cases b with
    | nil => unfold eqDL toPyL PyData.eqvAll; rfl
    | cons y ys => unfold eqDL toPyL PyData.eqvAll; rfl
  | cons x xs =>
    cases b with
    | nil => unfold eqDL toPyL PyData.eqvAll; rfl
    | cons y ys =>
      unfold plainDL at ha hb
      rw [Bool.and_eq_true] at ha hb
      unfold eqDL toPyL PyData.eqvAll
      rw [eqD_py x y ha.1 hb.1, eqDL_py xs ys ha.2 hb.2]
end
mutual
/-- data that == goes through: no dict within, depth at most n -/
def shp : Nat → Dat → Bool
  | _, .non => true
  | _, .bl _ => true
  | _, .int _ => true
  | _, .str x => PyData.strOk x
  | n + 1, .tup ds => shpL n ds
  | n + 1, .lst ds => shpL n ds
  | _, _ => false
def shpL : Nat → List Dat → Bool
  | _, [] => true
  | n, d :: ds => shp n d && shpL n ds
end
mutual
theorem shp_ok : ∀ (n : Nat) (d : Dat), shp n d = true → plainD d = true ∧ (toPy d).canLay0 = true ∧ (toPy d).depth ≤ n
  | n, .non, _ => by unfold plainD toPy PyData.canLay0 PyData.depth; exact ⟨rfl, rfl, Nat.zero_le _⟩
  | n, .bl _, _ => by unfold plainD toPy PyData.canLay0 PyData.depth; exact ⟨rfl, rfl, Nat.zero_le _⟩
  | n, .int _, _ => by unfold plainD toPy PyData.canLay0 PyData.depth; exact ⟨rfl, rfl, Nat.zero_le _⟩
  | n, .str x, h => by unfold shp at h; unfold plainD toPy PyData.canLay0 PyData.depth; exact ⟨rfl, h, Nat.zero_le _⟩
  | 0, .tup ds, h => by unfold shp at h; exact nomatch h
  | 0, .lst ds, h => by unfold shp at h; exact nomatch h
  | n, .dic _, h => by cases n <;> (unfold shp at h; exact nomatch h)
  | n + 1, .tup ds, h => by
    unfold shp at h
    obtain ⟨a, b, c⟩ := shpL_ok n ds h
    unfold plainD toPy PyData.canLay0 PyData.depth
    exact ⟨a, b, Nat.succ_le_succ c⟩
  | n + 1, .lst ds, h => by
    unfold shp at h
    obtain ⟨a, b, c⟩ := shpL_ok n ds h
    unfold plainD toPy PyData.canLay0 PyData.depth
    exact ⟨a, b, Nat.succ_le_succ c⟩
theorem shpL_ok : ∀ (n : Nat) (ds : List Dat), shpL n ds = true → plainDL ds = true ∧ PyData.canLayAll0 (toPyL ds) = true ∧ PyData.depthAll (toPyL ds) ≤ n
  | n, [], _ => by unfold plainDL toPyL PyData.canLayAll0 PyData.depthAll; exact ⟨rfl, rfl, Nat.zero_le _⟩
  | n, d :: ds, h => by
    unfold shpL at h
    rw [Bool.and_eq_true] at h
    obtain ⟨a, b, c⟩ := shp_ok n d h.1
    obtain ⟨a2, b2, c2⟩ := shpL_ok n ds h.2
    unfold plainDL toPyL PyData.canLayAll0 PyData.depthAll
    exact ⟨by rw [a, a2]; rfl, by rw [b, b2]; rfl, Nat.max_le.mpr ⟨c, c2⟩⟩
end
theorem shp_shaped {d : Dat} (h : shp 64 d = true) : plainD d = true ∧ SeqAt.shaped (toPy d) = true := by
  obtain ⟨a, b, c⟩ := shp_ok 64 d h
  exact ⟨a, by unfold SeqAt.shaped; rw [b, decide_eq_true c]; rfl⟩
def kEq : Rv → Rv → (Rv → Prop) → (Str → Prop) → Prop := fun x y κ _ =>
  (shp 64 x.dat = true ∧ shp 64 y.dat = true) ∧ κ (.v (.bl (eqD x.dat y.dat)))
def kNe : Rv → Rv → (Rv → Prop) → (Str → Prop) → Prop := fun x y κ _ =>
  (shp 64 x.dat = true ∧ shp 64 y.dat = true) ∧ κ (.v (.bl (!eqD x.dat y.dat)))
theorem op2_eq {K : PySem.W.Frag} : Op2 K (rEqD K) kEq := by
  intro H0 G Hs H x y v u Q κ ε s s0 sh rx ry h q
  obtain ⟨⟨p1, p2⟩, hk⟩ := h
  obtain ⟨p1, p3⟩ := shp_shaped p1
  obtain ⟨p2, p4⟩ := shp_shaped p2
  refine ⟨_, _, RdD.dp _ _ p1 (rx.read s s0), RdD.dp _ _ p2 (ry.read s s0), p3, p4, ?_⟩
  rw [← eqD_py _ _ p1 p2]
  exact q _ H G (.v (.bl _)) (Ext.refl s) (by show RdD K G _ _; unfold RdD; rfl) hk
theorem op2_ne {K : PySem.W.Frag} : Op2 K (rNeD K) kNe := by
  intro H0 G Hs H x y v u Q κ ε s s0 sh rx ry h q
  obtain ⟨⟨p1, p2⟩, hk⟩ := h
  obtain ⟨p1, p3⟩ := shp_shaped p1
  obtain ⟨p2, p4⟩ := shp_shaped p2
  refine ⟨_, _, RdD.dp _ _ p1 (rx.read s s0), RdD.dp _ _ p2 (ry.read s s0), p3, p4, ?_⟩
  rw [← eqD_py _ _ p1 p2]
  exact q _ H G (.v (.bl _)) (Ext.refl s) (by show RdD K G _ _; unfold RdD; rfl) hk
end DL
namespace DL
open PySem PySem.Spec PyProof.Rows L2
variable {K : PySem.W.Frag}

/-! ### truths -/
def dAnd (a b : DE) : DE := fun ρ κ ε => a ρ (fun x => asB x fun c => if c = true then b ρ κ ε else κ (.v (.bl false))) ε
def dOr (a b : DE) : DE := fun ρ κ ε => a ρ (fun x => asB x fun c => if c = true then κ (.v (.bl true)) else b ρ κ ε) ε
def dNot (a : DE) : DE := fun ρ κ ε => a ρ (fun x => asB x fun c => κ (.v (.bl (!c)))) ε
def tVal (a : DE) : DT := fun ρ κ ε => a ρ (fun x => asB x κ) ε
def tAndD (a b : DT) : DT := fun ρ κ ε => a ρ (fun c => if c = true then b ρ κ ε else κ false) ε
def tOrD (a b : DT) : DT := fun ρ κ ε => a ρ (fun c => if c = true then κ true else b ρ κ ε) ε
def tNotD (a : DT) : DT := fun ρ κ ε => a ρ (fun c => κ (!c)) ε
theorem rd_bl {G : Hp} {b : Bool} : RdD K G (Dat.bl b) (V.bl b) := by unfold RdD; rfl
section
variable {mg : MG} {W : WX} {ta tb : TE} {a b : DE} {ua ub : TT} {p q : DT}
theorem eok_and (ha : EOk K mg W ta a) (hb : EOk K mg W tb b) : EOk K mg W (tAndV ta tb) (dAnd a b) := by
  intro H0 G0 G ρ σ H Q κ ε R h hq hx
  refine ha H0 G0 G ρ σ H _ _ ε R h (fun v H1 G1 x e1 r1 h1 => ?_) hx
  obtain ⟨c, rfl, k⟩ := asB.of h1
  have r1 : RdD K G1 (.bl c) v := r1
  unfold RdD at r1
  refine ⟨c, r1, ?_⟩
  by_cases hc : c = true
  · rw [if_pos hc] at k ⊢
    exact hb H0 G0 G1 ρ σ H1 Q κ ε (R.on e1) k (fun v2 H2 G2 z e2 r2 h2 => hq v2 H2 G2 z (e1.trans e2) (r2.back e1.h) h2) (hx.on e1)
  · rw [if_neg hc] at k ⊢
    exact hq _ H1 G1 (.v (.bl false)) e1 (rd_bl (K := K) (G := G1)) k
theorem eok_or (ha : EOk K mg W ta a) (hb : EOk K mg W tb b) : EOk K mg W (tOrV ta tb) (dOr a b) := by
  intro H0 G0 G ρ σ H Q κ ε R h hq hx
  refine ha H0 G0 G ρ σ H _ _ ε R h (fun v H1 G1 x e1 r1 h1 => ?_) hx
  obtain ⟨c, rfl, k⟩ := asB.of h1
  have r1 : RdD K G1 (.bl c) v := r1
  unfold RdD at r1
  refine ⟨c, r1, ?_⟩
  by_cases hc : c = true
  · rw [if_pos hc] at k ⊢
    exact hq _ H1 G1 (.v (.bl true)) e1 (rd_bl (K := K) (G := G1)) k
  · rw [if_neg hc] at k ⊢
    exact hb H0 G0 G1 ρ σ H1 Q κ ε (R.on e1) k (fun v2 H2 G2 z e2 r2 h2 => hq v2 H2 G2 z (e1.trans e2) (r2.back e1.h) h2) (hx.on e1)
theorem eok_not (ha : EOk K mg W ta a) : EOk K mg W (tNotV ta) (dNot a) := by
  intro H0 G0 G ρ σ H Q κ ε R h hq hx
  refine ha H0 G0 G ρ σ H _ _ ε R h (fun v H1 G1 x e1 r1 h1 => ?_) hx
  obtain ⟨c, rfl, k⟩ := asB.of h1
  have r1 : RdD K G1 (.bl c) v := r1
  unfold RdD at r1
  exact ⟨c, r1, hq _ H1 G1 (.v (.bl (!c))) e1 (rd_bl (K := K) (G := G1)) k⟩
theorem tok_val (ha : EOk K mg W ta a) : TOk K mg W (tB ta) (tVal a) := by
  intro H0 G0 G ρ σ H Q κ ε R h hq hx
  refine ha H0 G0 G ρ σ H _ _ ε R h (fun v H1 G1 x e1 r1 h1 => ?_) hx
  obtain ⟨c, rfl, k⟩ := asB.of h1
  have r1 : RdD K G1 (.bl c) v := r1
  unfold RdD at r1
  exact ⟨c, r1, hq _ H1 G1 e1 k⟩
theorem tok_and (ha : TOk K mg W ua p) (hb : TOk K mg W ub q) : TOk K mg W (tAnd ua ub) (tAndD p q) := by
  intro H0 G0 G ρ σ H Q κ ε R h hq hx
  refine ha H0 G0 G ρ σ H _ _ ε R h (fun c H1 G1 e1 k => ?_) hx
  by_cases hc : c = true
  · rw [if_pos hc] at k ⊢
    exact hb H0 G0 G1 ρ σ H1 Q κ ε (R.on e1) k (fun v2 H2 G2 e2 h2 => hq v2 H2 G2 (e1.trans e2) h2) (hx.on e1)
  · rw [if_neg hc] at k ⊢
    exact hq _ H1 G1 e1 k
theorem tok_or (ha : TOk K mg W ua p) (hb : TOk K mg W ub q) : TOk K mg W (tOr ua ub) (tOrD p q) := by
  intro H0 G0 G ρ σ H Q κ ε R h hq hx
  refine ha H0 G0 G ρ σ H _ _ ε R h (fun c H1 G1 e1 k => ?_) hx
  by_cases hc : c = true
  · rw [if_pos hc] at k ⊢
    exact hq _ H1 G1 e1 k
  · rw [if_neg hc] at k ⊢
    exact hb H0 G0 G1 ρ σ H1 Q κ ε (R.on e1) k (fun v2 H2 G2 e2 h2 => hq v2 H2 G2 (e1.trans e2) h2) (hx.on e1)
theorem tok_not (ha : TOk K mg W ua p) : TOk K mg W (tNot ua) (tNotD p) := by
  intro H0 G0 G ρ σ H Q κ ε R h hq hx
  exact ha H0 G0 G ρ σ H _ _ ε R h (fun c H1 G1 e1 k => hq _ H1 G1 e1 k) hx
end
structure MW (X : Cx) (W : WX) (e : Expr) (δ : DT) : Prop where
  ex : ∃ t, PW X e t ∧ TOk X.K X.mg W t δ
section
variable {X : Cx} {W : WX} {a b : Expr} {da db : DE} {p q : DT} {pos : Pos} {rest : List Expr}
theorem me_one {op : BoolOp} (ha : ME X W a da) : ME X W (.BoolOp op [a] pos) da := by
  obtain ⟨t, pa, oa⟩ := ha
  exact ⟨_, pe_one pa, oa⟩
theorem me_and (ha : ME X W a da) (hb : ME X W (.BoolOp .And (b :: rest) pos) db) : ME X W (.BoolOp .And (a :: b :: rest) pos) (dAnd da db) := by
  obtain ⟨t, pa, oa⟩ := ha
  obtain ⟨u, pb, ob⟩ := hb
  exact ⟨_, pe_and pa pb, eok_and oa ob⟩
theorem me_or (ha : ME X W a da) (hb : ME X W (.BoolOp .Or (b :: rest) pos) db) : ME X W (.BoolOp .Or (a :: b :: rest) pos) (dOr da db) := by
  obtain ⟨t, pa, oa⟩ := ha
  obtain ⟨u, pb, ob⟩ := hb
  exact ⟨_, pe_or pa pb, eok_or oa ob⟩
theorem me_not (ha : ME X W a da) : ME X W (.UnaryOp .Not a pos) (dNot da) := by
  obtain ⟨t, pa, oa⟩ := ha
  exact ⟨_, pe_not pa, eok_not oa⟩
theorem mt_val (ha : ME X W a da) (he : ∀ whole, isTrue a X.env whole = (do let v ← whole; standAt a.pos; holding [v] (truthy v)) := by intro _; rfl) : MT X W a (tVal da) := by
  obtain ⟨t, pa, oa⟩ := ha
  exact ⟨_, pt_val pa he, tok_val oa⟩
theorem mt_cmp {op : CmpOp} {r : R2} {k : Rv → Rv → (Rv → Prop) → (Str → Prop) → Prop} (ho : OpR X (compareOp op) r) (hr : Op2 X.K r k) (ha : ME X W a da) (hb : ME X W b db) (hm : behindInMarks op b = false) : MT X W (.Compare a [op] [b] pos) (tVal (dBin k da db)) := by
  obtain ⟨ta, pa, oa⟩ := ha
  obtain ⟨tb, pb, ob⟩ := hb
  exact ⟨_, pt_cmpR ho pa pb hm, tok_val (eok_bin oa ob hr)⟩
theorem mt_lt (ha : ME X W a da) (hb : ME X W b db) : MT X W (.Compare a [.Lt] [b] pos) (tVal (dLt da db)) := mt_cmp op_lt (op2_I0 rdB) ha hb (nomark _)
theorem mt_le (ha : ME X W a da) (hb : ME X W b db) : MT X W (.Compare a [.LtE] [b] pos) (tVal (dLe da db)) := mt_cmp op_le (op2_I0 rdB) ha hb (nomark _)
theorem mt_gt (ha : ME X W a da) (hb : ME X W b db) : MT X W (.Compare a [.Gt] [b] pos) (tVal (dGt da db)) := mt_cmp op_gt (op2_I0 rdB) ha hb (nomark _)
theorem mt_ge (ha : ME X W a da) (hb : ME X W b db) : MT X W (.Compare a [.GtE] [b] pos) (tVal (dGe da db)) := mt_cmp op_ge (op2_I0 rdB) ha hb (nomark _)
def dEq := dBin kEq
def dNe := dBin kNe
theorem me_eq (hu : X.A.units + 64 < cLine) (ha : ME X W a da) (hb : ME X W b db) : ME X W (.Compare a [.Eq] [b] pos) (dEq da db) := me_cmp (op_eqD hu) op2_eq ha hb (nomark _)
theorem me_ne (hu : X.A.units + 64 < cLine) (ha : ME X W a da) (hb : ME X W b db) : ME X W (.Compare a [.NotEq] [b] pos) (dNe da db) := me_cmp (op_neD hu) op2_ne ha hb (nomark _)
theorem mt_eq (hu : X.A.units + 64 < cLine) (ha : ME X W a da) (hb : ME X W b db) : MT X W (.Compare a [.Eq] [b] pos) (tVal (dEq da db)) := mt_cmp (op_eqD hu) op2_eq ha hb (nomark _)
theorem mt_ne (hu : X.A.units + 64 < cLine) (ha : ME X W a da) (hb : ME X W b db) : MT X W (.Compare a [.NotEq] [b] pos) (tVal (dNe da db)) := mt_cmp (op_neD hu) op2_ne ha hb (nomark _)
theorem mw_and1 (ha : MT X W a p) : MW X W (.BoolOp .And [a] pos) p := by
  obtain ⟨t, pa, oa⟩ := ha
  exact ⟨_, pw_and1 pa, oa⟩
theorem mw_or1 (ha : MT X W a p) : MW X W (.BoolOp .Or [a] pos) p := by
  obtain ⟨t, pa, oa⟩ := ha
  exact ⟨_, pw_or1 pa, oa⟩
theorem mw_and (ha : MT X W a p) (hb : MW X W (.BoolOp .And (b :: rest) pos) q) : MW X W (.BoolOp .And (a :: b :: rest) pos) (tAndD p q) := by
  obtain ⟨t, pa, oa⟩ := ha
  obtain ⟨u, pb, ob⟩ := hb
  exact ⟨_, pw_and pa pb, tok_and oa ob⟩
theorem mw_or (ha : MT X W a p) (hb : MW X W (.BoolOp .Or (b :: rest) pos) q) : MW X W (.BoolOp .Or (a :: b :: rest) pos) (tOrD p q) := by
  obtain ⟨t, pa, oa⟩ := ha
  obtain ⟨u, pb, ob⟩ := hb
  exact ⟨_, pw_or pa pb, tok_or oa ob⟩
theorem MW.mt {e : Expr} (h : MW X W e p) : MT X W e p := by
  obtain ⟨t, pa, oa⟩ := h
  exact ⟨_, pa.pt, oa⟩
theorem mt_not (ha : MT X W a p) : MT X W (.UnaryOp .Not a pos) (tNotD p) := by
  obtain ⟨t, pa, oa⟩ := ha
  exact ⟨_, pt_not pa, tok_not oa⟩
end

/-! ### arguments, displays -/
def aNil : DA := fun _ κ _ => κ []
def aCons (a : DE) (b : DA) : DA := fun ρ κ ε => a ρ (fun x => b ρ (fun xs => κ (x :: xs)) ε) ε
theorem RvsR.back {H0 G H H1 H' : Hp} (s : Same H H1) : ∀ {rs : List Rv} {vs : List V}, RvsR K H0 G H1 H' rs vs → RvsR K H0 G H H' rs vs
  | [], _, h => h
  | r :: rs, vs, h => by
    obtain ⟨v, w, e, a, b⟩ := h
    exact ⟨v, w, e, a.back s, RvsR.back s b⟩
theorem RvsR.on {H0 G H H1 G' H2 : Hp} (x : Ext H1 G H2 G') : ∀ {rs : List Rv} {vs : List V}, RvsR K H0 G H H1 rs vs → RvsR K H0 G' H H2 rs vs
  | [], _, h => h
  | r :: rs, vs, h => by
    obtain ⟨v, w, e, a, b⟩ := h
    exact ⟨v, w, e, a.on x, RvsR.on x b⟩
section
variable {mg : MG} {W : WX} {ta : TE} {a : DE} {t : TA} {b : DA}
theorem aok_nil : AOk K mg W tNil aNil := fun H0 G0 G ρ σ H Q κ ε R h hq hx => hq [] H G [] (Ext.refl R.ext.s) rfl h
theorem aok_cons (ha : EOk K mg W ta a) (hb : AOk K mg W t b) : AOk K mg W (tCons ta t) (aCons a b) := by
  intro H0 G0 G ρ σ H Q κ ε R h hq hx
  refine ha H0 G0 G ρ σ H _ _ ε R h (fun v H1 G1 x e1 r1 h1 => ?_) hx
  refine hb H0 G0 G1 ρ σ H1 _ _ ε (R.on e1) h1 (fun vs H2 G2 xs e2 r2 h2 => ?_) (hx.on e1)
  exact hq (v :: vs) H2 G2 (x :: xs) (e1.trans e2) ⟨v, vs, rfl, r1.on e2, r2.back e1.h⟩ h2
end
section
variable {X : Cx} {W : WX} {e : Expr} {es : List Expr} {da : DE} {db : DA}
theorem ma_nil : MA X W [] aNil := ⟨_, pa_nil, aok_nil⟩
theorem ma_cons (ha : ME X W e da) (hb : MA X W es db) (hs : starEach (e :: es) X.env = (false, eval e X.env) :: starEach es X.env := by rfl) : MA X W (e :: es) (aCons da db) := by
  obtain ⟨t, pa, oa⟩ := ha
  obtain ⟨u, pb, ob⟩ := hb
  exact ⟨_, pa_cons pa pb hs, aok_cons oa ob⟩
end
/-- values that may be kept: data, new lists -/
def frz1 : Rv → Option Dat
  | .v d => some d
  | .n ds => some (.lst ds)
  | _ => none
def frzs : List Rv → Option (List Dat)
  | [] => some []
  | r :: rs => match frz1 r, frzs rs with
    | some d, some ds => some (d :: ds)
    | _, _ => none
/-- the values are put into the part that stays -/
theorem frz1_ok {H0 G G1 H Gs H' : Hp} {r : Rv} {v : V} {d : Dat} (s1 : Same G G1) (x : Ext H Gs H' G1) (h : RvR K H0 G H H' r v) (e : frz1 r = some d) : ∃ G', Ext H Gs H' G' ∧ Same G1 G' ∧ RdD K G' d v := by
  cases r with
  | v d' => injection e with e; subst e; exact ⟨G1, x, Same.refl _, RdD.mono s1 _ _ h⟩
  | n ds =>
    injection e with e; subst e
    obtain ⟨l, vs, a, b, c, n, g⟩ := h
    cases q : G1 l with
    | none =>
      obtain ⟨y, s⟩ := x.put n b q
      refine ⟨_, y, s, ?_⟩
      unfold RdD; exact ⟨l, vs, a, sq_of upd_same, c.mono (s1.trans s)⟩
    | some o =>
      have z := x.s _ _ q
      rw [b] at z
      cases z
      refine ⟨G1, x, Same.refl _, ?_⟩
      unfold RdD; exact ⟨l, vs, a, sq_of q, c.mono s1⟩
  | b ds => exact nomatch e
  | o ds => exact nomatch e
theorem frzs_ok {H0 G H Gs H' : Hp} (x : Ext H Gs H' G) : ∀ {rs : List Rv} {vs : List V} {ds : List Dat}, RvsR K H0 G H H' rs vs → frzs rs = some ds → ∃ G', Ext H Gs H' G' ∧ Same G G' ∧ RdL K G' ds vs
  | [], vs, ds, h, e => by
    injection e with e; subst e
    exact ⟨G, x, Same.refl _, by unfold RdL; exact h⟩
  | r :: rs, vs, ds, h, e => by
    obtain ⟨v, w, rfl, h1, h2⟩ := h
    unfold frzs at e
    split at e
    · rename_i d es e1 e2
      injection e with e; subst e
      obtain ⟨G1, x1, s1, r1⟩ := frzs_ok x h2 e2
      obtain ⟨G2, x2, s2, r2⟩ := frz1_ok s1 x1 h1 e1
      exact ⟨G2, x2, s1.trans s2, RdL.cons r2 (r1.mono s2)⟩
    · exact nomatch e
def dTup (a : DA) : DE := fun ρ κ ε => a ρ (fun rs => match frzs rs with
  | some ds => Nat.ble rs.length 100000 = true ∧ κ (.v (.tup ds))
  | none => False) ε
def dLst (a : DA) : DE := fun ρ κ ε => a ρ (fun rs => match frzs rs with
  | some ds => Nat.ble rs.length 100000 = true ∧ κ (.n ds)
  | none => False) ε
theorem frzs_len : ∀ {rs : List Rv} {ds : List Dat}, frzs rs = some ds → ds.length = rs.length
  | [], ds, e => by injection e with e; subst e; rfl
  | r :: rs, ds, e => by
    unfold frzs at e
    split at e
    · rename_i d es e1 e2
      injection e with e; subst e
      rw [List.length_cons, List.length_cons, frzs_len e2]
    · exact nomatch e
theorem small_of {n : Nat} (h : Nat.ble n 100000 = true) : n ≤ sizeLine := Nat.le_trans (Nat.le_of_ble_eq_true h) (by decide)
theorem eok_tup {mg : MG} {W : WX} {t : TA} {a : DA} (ha : AOk K mg W t a) : EOk K mg W (tTup t) (dTup a) := by
  intro H0 G0 G ρ σ H Q κ ε R h hq hx
  refine ha H0 G0 G ρ σ H _ _ ε R h (fun vs H1 G1 rs e1 r1 h1 => ?_) hx
  split at h1
  · rename_i ds e
    obtain ⟨G2, x2, s2, r2⟩ := frzs_ok e1 r1 e
    refine ⟨by rw [← r2.len, frzs_len e]; exact small_of h1.1, fun p np => ?_⟩
    have y := Ext.newG (o := HO.tup vs) x2.s np
    refine hq _ _ _ (.v (.tup ds)) (x2.trans y) ?_ h1.2
    show RdD K _ _ _
    unfold RdD
    exact ⟨p, vs, rfl, upd_same, r2.mono y.g⟩
  · exact h1.elim
theorem eok_lst {mg : MG} {W : WX} {t : TA} {a : DA} (ha : AOk K mg W t a) : EOk K mg W (tLst t) (dLst a) := by
  intro H0 G0 G ρ σ H Q κ ε R h hq hx
  refine ha H0 G0 G ρ σ H _ _ ε R h (fun vs H1 G1 rs e1 r1 h1 => ?_) hx
  split at h1
  · rename_i ds e
    obtain ⟨G2, x2, s2, r2⟩ := frzs_ok e1 r1 e
    refine ⟨by rw [← r2.len, frzs_len e]; exact small_of h1.1, fun p np => ?_⟩
    have y := Ext.newH (o := HO.lst vs) x2.s np
    exact hq _ _ _ (.n ds) (x2.trans y) ⟨p, vs, rfl, upd_same, r2, x2.h.free np, x2.s.free np⟩ h1.2
  · exact h1.elim
section
variable {X : Cx} {W : WX} {es : List Expr} {da : DA} {pos : Pos}
theorem me_tup {k : Nat} (h : MA X W es da) : ME X W (.Tuple es k pos) (dTup da) := by
  obtain ⟨t, pa, oa⟩ := h
  exact ⟨_, pe_tup pa, eok_tup oa⟩
theorem me_lst (h : MA X W es da) : ME X W (.List es pos) (dLst da) := by
  obtain ⟨t, pa, oa⟩ := h
  exact ⟨_, pe_lst pa, eok_lst oa⟩
end

/-! ### places, slices -/
def kIx : Rv → Rv → (Rv → Prop) → (Str → Prop) → Prop := fun x y κ _ => asQ x fun ds => asI y fun i => onS (atI ds i) fun d => κ (.v d)
def rIxLT (K : PySem.W.Frag) : R2 := fun x y H Q => rIxL K x y H Q ∨ rIxT K x y H Q
theorem RdL.at {G : Hp} {ds : List Dat} {vs : List V} {i : Int} {d : Dat} (h : RdL K G ds vs) (e : atI ds i = some d) : ∃ v, atI vs i = some v ∧ RdD K G d v := by
  unfold atI at e ⊢
  rw [← h.len]
  cases q : ixN ds.length i with
  | none => rw [q] at e; exact nomatch e
  | some j =>
    rw [q] at e
    exact h.get e
theorem op2_ix {K : PySem.W.Frag} : Op2 K (rIxLT K) kIx := by
  intro H0 G Hs H x y v u Q κ ε s s0 sh rx ry h q
  obtain ⟨ds, e, h1⟩ := asQ.of h
  obtain ⟨i, rfl, h2⟩ := asI.of h1
  have ry : RdD K G (.int i) u := ry
  unfold RdD at ry
  obtain ⟨d, q2, h2⟩ := onS.of h2
  · rcases e with e | e
    · obtain ⟨l, vs, rfl, b, c⟩ := rx.lst s s0 e
      obtain ⟨w, e1, e2⟩ := c.at q2
      exact .inl ⟨l, vs, i, w, rfl, ry, b, e1, q w H G (.v d) (Ext.refl s) e2 h2⟩
    · cases x with
      | v d0 =>
        have e : d0 = .tup ds := e
        subst e
        have rx : RdD K G (.tup ds) v := rx
        unfold RdD at rx
        obtain ⟨l, vs, rfl, b, c⟩ := rx
        obtain ⟨w, e1, e2⟩ := c.at q2
        exact .inr ⟨l, vs, i, w, rfl, ry, SqT.of (s _ _ b), e1, q w H G (.v d) (Ext.refl s) e2 h2⟩
      | n _ => exact nomatch e
      | b _ => exact nomatch e
      | o _ => exact nomatch e
section
variable {X : Cx} {W : WX} {a b : Expr} {da db : DE} {pos p2 : Pos}
def dIx := dBin kIx
theorem me_ix (ha : ME X W a da) (hb : ME X W b db) (hs : PlainIx b := by exact fun _ _ => rfl) : ME X W (.Subscript a b pos) (dIx da db) := by
  obtain ⟨ta, pa, oa⟩ := ha
  obtain ⟨tb, pb, ob⟩ := hb
  exact ⟨_, pe_ix (ix_list.or ix_tup) pa pb hs, eok_bin oa ob op2_ix⟩
end
abbrev DO := List Sl → (Option Int → Prop) → (Str → Prop) → Prop
def OOk (K : PySem.W.Frag) (mg : MG) (W : WX) (t : TO) (δ : DO) : Prop := ∀ H0 G0 G ρ σ H (Q : Option Int → Hp → Prop) κ ε, Rel K H0 G0 G ρ σ H → δ ρ κ ε →
  (∀ b H' G', Ext H G H' G' → κ b → Q b H') → XOk mg W H G σ ε → t σ H Q
structure MO (X : Cx) (W : WX) (e : Option Expr) (δ : DO) : Prop where
  ex : ∃ t, PO X e t ∧ OOk X.K X.mg W t δ
def oNone : DO := fun _ κ _ => κ none
def oSome (a : DE) : DO := fun ρ κ ε => a ρ (fun x => asI x fun i => κ (some i)) ε
section
variable {X : Cx} {W : WX} {a : Expr} {lo hi : Option Expr} {da : DE} {dl dh : DO} {pos p2 : Pos}
theorem mo_none : MO X W none oNone := ⟨_, po_none, fun H0 G0 G ρ σ H Q κ ε R h hq hx => hq _ H G (Ext.refl R.ext.s) h⟩
theorem mo_some (ha : ME X W a da) : MO X W (some a) (oSome da) := by
  obtain ⟨ta, pa, oa⟩ := ha
  refine ⟨_, po_some pa, fun H0 G0 G ρ σ H Q κ ε R h hq hx => ?_⟩
  refine oa H0 G0 G ρ σ H _ _ ε R h (fun v H1 G1 x e1 r1 h1 => ?_) hx
  obtain ⟨i, rfl, k⟩ := asI.of h1
  have r1 : RdD X.K G1 (.int i) v := r1
  unfold RdD at r1
  exact ⟨i, r1, hq _ H1 G1 e1 k⟩
def cutD (xs : List Dat) (lo hi : Option Int) : List Dat := (xs.drop (HT.sIx xs.length 0 lo)).take (HT.sIx xs.length xs.length hi - HT.sIx xs.length 0 lo)
theorem RdL.cut {G : Hp} {ds : List Dat} {vs : List V} (lo hi : Option Int) (h : RdL K G ds vs) : RdL K G (cutD ds lo hi) (cutV vs lo hi) := by
  unfold cutD cutV
  rw [← h.len]
  exact (h.drop _).take _
/-- a[lo:hi] of a list -/
def dCut (a : DE) (l h : DO) : DE := fun ρ κ ε => a ρ (fun x => l ρ (fun lo => h ρ (fun hi => match x.dat with
  | .lst ds => κ (.n (cutD ds lo hi))
  | .tup ds => κ (.v (.tup (cutD ds lo hi)))
  | _ => False) ε) ε) ε
theorem cut_whole {α : Type} {xs : List α} {n : Nat} (h : xs.length = n) : (xs.drop 0).take (n - 0) = xs := by
  rw [List.drop_zero, Nat.sub_zero, List.take_of_length_le (by omega)]
theorem Rv.tup_of {x : Rv} {ds : List Dat} (e : x.dat = .tup ds) : x = .v (.tup ds) := by
  cases x with
  | v d => have e : d = .tup ds := e; rw [e]
  | n _ => exact nomatch e
  | b _ => exact nomatch e
  | o _ => exact nomatch e
theorem rvT {H0 G Hs H : Hp} {ds : List Dat} {v : V} (s : Same G H) (h : RvR K H0 G Hs H (.v (.tup ds)) v) : ∃ a vs, v = .ref a ∧ SqT K H a vs ∧ RdL K G ds vs := by
  have h : RdD K G (.tup ds) v := h
  unfold RdD at h
  obtain ⟨a, vs, rfl, g, r⟩ := h
  exact ⟨a, vs, rfl, SqT.of (s _ _ g), r⟩
theorem me_cut (ha : ME X W a da) (hl : MO X W lo dl) (hh : MO X W hi dh) : ME X W (.Subscript a (.Slice lo hi none p2) pos) (dCut da dl dh) := by
  obtain ⟨ta, pa, oa⟩ := ha
  obtain ⟨tl, pl, ol⟩ := hl
  obtain ⟨th, ph, oh⟩ := hh
  refine ⟨_, pe_slice (sl_list.or sl_tupA) pa pl ph, fun H0 G0 G ρ σ H Q κ ε R h hq hx => ?_⟩
  refine oa H0 G0 G ρ σ H _ _ ε R h (fun v H1 G1 x e1 r1 h1 => ?_) hx
  refine ol H0 G0 G1 ρ σ H1 _ _ ε (R.on e1) h1 (fun lo H2 G2 e2 h2 => ?_) (hx.on e1)
  refine oh H0 G0 G2 ρ σ H2 _ _ ε ((R.on e1).on e2) h2 (fun hi H3 G3 e3 h3 => ?_) ((hx.on e1).on e2)
  have e4 := (e1.trans e2).trans e3
  have R4 := R.on e4
  split at h3
  · rename_i ds e
    obtain ⟨l, vs, rfl, b, c⟩ := ((r1.on e2).on e3).lst e4.s R4.ext.h e
    refine .inl ⟨l, vs, rfl, b, fun p np => ?_⟩
    have y := Ext.newH (o := HO.lst (cutV vs lo hi)) e4.s np
    exact hq _ _ _ (.n (cutD ds lo hi)) (e4.trans y) ⟨p, _, rfl, upd_same, c.cut lo hi, e4.h.free np, e4.s.free np⟩ h3
  · rename_i ds e
    obtain rfl := Rv.tup_of e
    have rx0 : RdD X.K G3 (.tup ds) v := RdD.mono (e2.trans e3).g _ _ r1
    obtain ⟨l, vs, rfl, b, c⟩ := rvT e4.s ((r1.on e2).on e3)
    refine .inr ⟨l, vs, rfl, b, fun hw => ?_, fun _ p np => ?_⟩
    · refine hq _ H3 G3 (.v (.tup (cutD ds lo hi))) e4 ?_ h3
      have : cutD ds lo hi = ds := by
        unfold cutD
        rw [c.len, hw.1, hw.2]
        exact cut_whole c.len
      rw [this]
      exact rx0
    · have y := Ext.newG (o := HO.tup (cutV vs lo hi)) e4.s np
      refine hq _ _ _ (.v (.tup (cutD ds lo hi))) (e4.trans y) ?_ h3
      show RdD X.K _ _ _
      unfold RdD
      exact ⟨p, _, rfl, upd_same, (c.cut lo hi).mono y.g⟩
  · exact h3.elim
end

/-! ### xs + ys of lists -/
theorem Inv.lstR {X : Cx} {pins : List (Addr × Obj)} {σ : L2.St} {H : Hp} {s : Shared} {l : Addr} {xs : List V} (I : Inv X pins σ H s) (hH : SqL X.K H l xs) :
    xs.length ≤ sizeLine ∧ ∃ (its : List Value) (n : Nat) (dd : Option Addr) (sl : Array (Option Value)), Vals xs its ∧ xs.length = its.length ∧ s.heap.get? l = some { cls := .type "list", dict := dd, data := .seq its.toArray n, slots := sl } := by
  obtain ⟨its, r, pl, hz⟩ := I.list hH
  obtain ⟨⟨cls, dd, data, sl⟩, ho, hc, n, hd⟩ := pl.isList
  have hc : cls = .type "list" := hc
  have hd : data = .seq its.toArray n := hd
  rw [hc, hd] at ho
  exact ⟨hz, its, n, dd, sl, r, r.length, ho⟩
def rCatR (K : PySem.W.Frag) : R2 := fun x y H Q => ∃ l b xs zs, x = .ref l ∧ y = .ref b ∧ SqL K H l xs ∧ SqL K H b zs ∧ xs.length + zs.length ≤ sizeLine ∧ ∀ p, H p = none → Q (.ref p) (upd H p (.lst (xs ++ zs)))
theorem op_catR {X : Cx} : OpR X (binaryOp .Add) (rCatR X.K) := fun pins s σ H x y v u Q I rx ry h => by
  obtain ⟨l, b, xs, zs, rfl, rfl, hH, hB, hz, q⟩ := h
  have ex : v = Value.ref l := rx
  have ey : u = Value.ref b := ry
  subst ex ey
  obtain ⟨_, its, n, dd, sl, r, hl, e⟩ := Inv.lstR I hH
  obtain ⟨_, jts, m, dd2, sl2, t, ht, f⟩ := Inv.lstR I hB
  have sz : its.toArray.size + jts.toArray.size ≤ sizeLine := by rw [List.size_toArray, List.size_toArray, ← hl, ← ht]; exact hz
  refine concat_meets (S := _) ⟨_, e, rfl⟩ ⟨_, f, rfl⟩ noFill_list_add seq_list_add PySem.F.slot_list_add PySem.F.entry_list_add
    (PySem.F.args_list_add_2 _ _) (list_addW l b its.toArray jts.toArray n m dd dd2 sl sl2 sz) ⟨e, f, ?_⟩
  rw [show its.toArray ++ jts.toArray = (its ++ jts).toArray by simp]
  exact ⟨.ref _, _, I.lnew (t' := s.toks) (r.append t) (by rw [List.length_append]; exact hz), rfl, q _ I.fresh⟩
def kCat : Rv → Rv → (Rv → Prop) → (Str → Prop) → Prop := fun x y κ _ => asL x fun ds => asL y fun es => ds.length + es.length ≤ sizeLine ∧ κ (.n (ds ++ es))
theorem op2_cat : Op2 K (rCatR K) kCat := by
  intro H0 G Hs H x y v u Q κ ε s s0 sh rx ry h q
  obtain ⟨ds, e1, h1⟩ := asL.of h
  obtain ⟨es, e2, h2, h3⟩ := asL.of h1
  obtain ⟨l, vs, rfl, b, c⟩ := rx.lst s s0 e1
  obtain ⟨m, ws, rfl, b2, c2⟩ := ry.lst s s0 e2
  refine ⟨l, m, vs, ws, rfl, rfl, b, b2, by rw [← c.len, ← c2.len]; exact h2, fun p np => ?_⟩
  exact q _ _ _ (.n (ds ++ es)) (Ext.newH s np) ⟨p, _, rfl, upd_same, c.append c2, np, s.free np⟩ h3
section
variable {X : Cx} {W : WX} {a b : Expr} {da db : DE} {pos : Pos}
def dCat := dBin kCat
theorem me_cat (ha : ME X W a da) (hb : ME X W b db) : ME X W (.BinOp a .Add b pos) (dCat da db) := me_bin op_catR op2_cat ha hb
end
end DL
namespace DL
open PySem PySem.Spec PyProof.Rows L2
variable {K : PySem.W.Frag}

/-! ### stores -/
def slOf : Rv → Option Sl
  | .v d => some (.fz d)
  | .n ds => some (.ow ds)
  | .b ds => some (.br ds)
  | .o _ => none
theorem Rel.store {H0 G0 G G' H H' : Hp} {ρ : List Sl} {σ : L2.St} {r : Rv} {v : V} {s : Sl} (R : Rel K H0 G0 G ρ σ H) (x : Ext H G H' G') (h : RvR K H0 G' H H' r v) (e : slOf r = some s) (i : Nat) :
    Rel K H0 G0 G' (ρ.set i s) (σ.set i (some v)) H' := by
  have R' := R.on x
  refine ⟨R'.ext, by rw [List.length_set, List.length_set]; exact R.len, fun j t ht => ?_, fun j k ds es l hj hk lj lk => ?_⟩
  · by_cases hij : i = j
    · subst hij
      by_cases hi : i < ρ.length
      · rw [List.getElem?_set_self hi] at ht
        rw [List.getElem?_set_self (by rw [← R.len]; exact hi)]
        cases ht
        cases r with
        | v d => injection e with e; subst e; exact ⟨v, rfl, h⟩
        | n ds =>
          injection e with e; subst e
          obtain ⟨l, vs, rfl, b, c, n, g⟩ := h
          exact ⟨l, vs, rfl, b, c, g, R.ext.h.free n⟩
        | b ds =>
          injection e with e; subst e
          obtain ⟨l, vs, rfl, b, c⟩ := h
          exact ⟨l, vs, rfl, b, c⟩
        | o ds => exact nomatch e
      · rw [List.getElem?_eq_none (by rw [List.length_set]; omega)] at ht
        exact nomatch ht
    · rw [List.getElem?_set_ne hij] at ht
      rw [List.getElem?_set_ne hij]
      exact R'.sl j t ht
  · have key : ∀ (a b : Nat) (ds es : List Dat), i = a → i ≠ b → (ρ.set i s)[a]? = some (.ow ds) → (ρ.set i s)[b]? = some (.ow es) → (σ.set i (some v))[a]? = some (some (.ref l)) → (σ.set i (some v))[b]? = some (some (.ref l)) → False := by
      intro a b ds es ea nb qa qb la lb
      subst ea
      rw [List.getElem?_set_ne nb] at qb lb
      obtain ⟨l', vs, e1, e2, _⟩ := R.sl b _ qb
      rw [lb] at e1
      cases e1
      have hi : i < ρ.length := by
        by_cases hi : i < ρ.length
        · exact hi
        · rw [List.getElem?_eq_none (by rw [List.length_set]; omega)] at qa; exact nomatch qa
      rw [List.getElem?_set_self hi] at qa
      rw [List.getElem?_set_self (by rw [← R.len]; exact hi)] at la
      cases qa
      cases la
      cases r with
      | v d => exact nomatch e
      | n ds' =>
        obtain ⟨m, ws, em, _, _, n, _⟩ := h
        cases em
        rw [e2] at n
        exact nomatch n
      | b ds' => exact nomatch e
      | o ds' => exact nomatch e
    by_cases hij : i = j
    · by_cases hik : i = k
      · rw [← hij, ← hik]
      · exact (key j k ds es hij hik hj hk lj lk).elim
    · by_cases hik : i = k
      · exact (key k j es ds hik hij hk hj lk lj).elim
      · rw [List.getElem?_set_ne hij] at hj lj
        rw [List.getElem?_set_ne hik] at hk lk
        exact R.inj j k ds es l hj hk lj lk
/-- an own list is rewritten -/
theorem Rel.write {H0 G0 G H : Hp} {ρ : List Sl} {σ : L2.St} {ds es : List Dat} {ws : List V} {l : Addr} {i : Nat} (R : Rel K H0 G0 G ρ σ H) (e : ρ[i]? = some (.ow ds)) (el : σ[i]? = some (some (.ref l))) (hw : RdL K G es ws) :
    Rel K H0 G0 G (ρ.set i (.ow es)) σ (upd H l (.lst ws)) := by
  obtain ⟨l', vs, e1, e2, e3, e4, e5⟩ := R.sl _ _ e
  rw [el] at e1
  cases e1
  have hi : i < ρ.length := by
    by_cases hi : i < ρ.length
    · exact hi
    · rw [List.getElem?_eq_none (by omega)] at e; exact nomatch e
  have same : ∀ {G' : Hp}, Same G' H → G' l = none → Same G' (upd H l (.lst ws)) := fun s n b o h => by
    rw [upd_ne (fun z => by rw [z, n] at h; exact nomatch h)]
    exact s _ _ h
  refine ⟨⟨same R.ext.h e5, R.ext.g, same R.ext.s e4, R.ext.f⟩, by rw [List.length_set]; exact R.len, fun j t ht => ?_, fun j k as bs m hj hk lj lk => ?_⟩
  · by_cases hij : i = j
    · subst hij
      rw [List.getElem?_set_self hi] at ht
      cases ht
      exact ⟨l, ws, el, upd_same, hw, e4, e5⟩
    · rw [List.getElem?_set_ne hij] at ht
      have h := R.sl j t ht
      cases t with
      | un => trivial
      | fz d => exact h
      | ow as =>
        obtain ⟨m, us, f1, f2, f3⟩ := h
        refine ⟨m, us, f1, ?_, f3⟩
        rw [upd_ne (fun z => hij (R.inj i j ds as l e ht el (by rw [f1, z])))]
        exact f2
      | br as => exact h
      | adr a => exact h
      | dc a kvs =>
        obtain ⟨f1, f2, f3, f4⟩ := h
        obtain ⟨es, ea⟩ := f2.at
        refine ⟨f1, f2.mono (Same.refl G) (fun o ho => ?_), f3, f4⟩
        rw [upd_ne (fun z => by rw [z, e2] at ea; exact nomatch ea)]
        exact ho
  · have back : ∀ (a : Nat) (as : List Dat), (ρ.set i (.ow es))[a]? = some (.ow as) → ∃ bs, ρ[a]? = some (.ow bs) := fun a as h => by
      by_cases hia : i = a
      · exact ⟨ds, by rw [← hia]; exact e⟩
      · rw [List.getElem?_set_ne hia] at h; exact ⟨as, h⟩
    obtain ⟨as', ja⟩ := back j as hj
    obtain ⟨bs', kb⟩ := back k bs hk
    exact R.inj j k as' bs' m ja kb lj lk
/-- an own list becomes data that stays -/
def frzSl (ρ : List Sl) (i : Nat) : List Sl := match ρ[i]? with
  | some (.ow ds) => ρ.set i (.fz (.lst ds))
  | _ => ρ
theorem Rel.frz {H0 G0 G H : Hp} {ρ : List Sl} {σ : L2.St} (R : Rel K H0 G0 G ρ σ H) (i : Nat) : ∃ G', Rel K H0 G0 G' (frzSl ρ i) σ H := by
  unfold frzSl
  split
  · rename_i ds e
    obtain ⟨l, vs, e1, e2, e3, e4, e5⟩ := R.sl _ _ e
    obtain ⟨x, s⟩ := R.ext.put e5 e2 e4
    have hi : i < ρ.length := by
      by_cases hi : i < ρ.length
      · exact hi
      · rw [List.getElem?_eq_none (by omega)] at e; exact nomatch e
    refine ⟨_, x, by rw [List.length_set]; exact R.len, fun j t ht => ?_, fun j k as bs m hj hk lj lk => ?_⟩
    · by_cases hij : i = j
      · subst hij
        rw [List.getElem?_set_self hi] at ht
        cases ht
        refine ⟨_, e1, ?_⟩
        unfold RdD
        exact ⟨l, vs, rfl, sq_of upd_same, e3.mono s⟩
      · rw [List.getElem?_set_ne hij] at ht
        have h := R.sl j t ht
        cases t with
        | un => trivial
        | fz d => obtain ⟨v, a, b⟩ := h; exact ⟨v, a, RdD.mono s _ _ b⟩
        | ow as =>
          obtain ⟨m, us, f1, f2, f3, f4, f5⟩ := h
          refine ⟨m, us, f1, f2, f3.mono s, ?_, f5⟩
          rw [upd_ne (fun z => hij (R.inj i j ds as l e ht e1 (by rw [f1, z])))]
          exact f4
        | br as => obtain ⟨m, us, a, b, c⟩ := h; exact ⟨m, us, a, b, c.mono s⟩
        | adr a => exact h
        | dc a kvs =>
          obtain ⟨f1, f2, f3, f4⟩ := h
          obtain ⟨es, ea⟩ := f2.at
          refine ⟨f1, f2.mono s fun o ho => ho, ?_, f4⟩
          rw [upd_ne (fun z => by rw [z, e2] at ea; exact nomatch ea)]
          exact f3
    · have back : ∀ (a : Nat) (as : List Dat), (ρ.set i (.fz (.lst ds)))[a]? = some (.ow as) → ρ[a]? = some (.ow as) := fun a as h => by
        by_cases hia : i = a
        · subst hia; rw [List.getElem?_set_self hi] at h; exact nomatch h
        · rw [List.getElem?_set_ne hia] at h; exact h
      exact R.inj j k as bs m (back _ _ hj) (back _ _ hk) lj lk
  · exact ⟨G, R⟩
/-- forgotten slots -/
theorem Rel.weak {H0 G0 G H : Hp} {ρ ρ' : List Sl} {σ σ' : L2.St} (R : Rel K H0 G0 G ρ σ H) (hl : ρ'.length = ρ.length) (hs : σ'.length = σ.length) (w : ∀ (i : Nat) (s : Sl), ρ'[i]? = some s → s = Sl.un ∨ (ρ[i]? = some s ∧ σ'[i]? = σ[i]?)) : Rel K H0 G0 G ρ' σ' H := by
  refine ⟨R.ext, by rw [hl, hs]; exact R.len, fun i s h => ?_, fun i j ds es l hi hj li lj => ?_⟩
  · rcases w i s h with rfl | ⟨a, b⟩
    · trivial
    · rw [b]; exact R.sl i s a
  · rcases w i _ hi with h | ⟨a, b⟩
    · exact nomatch h
    · rcases w j _ hj with h | ⟨c, d⟩
      · exact nomatch h
      · exact R.inj i j ds es l a c (by rw [← b]; exact li) (by rw [← d]; exact lj)

/-! ### targets -/
abbrev DG := Rv → List Sl → (List Sl → Prop) → Prop
/-- only these slots are touched -/
def Tch (is : List Nat) (σ σ' : L2.St) : Prop := σ'.length = σ.length ∧ ∀ j, j ∉ is → σ'[j]? = σ[j]?
theorem Tch.refl (σ : L2.St) : Tch [] σ σ := ⟨rfl, fun _ _ => rfl⟩
theorem Tch.trans {is js : List Nat} {σ σ1 σ2 : L2.St} (a : Tch is σ σ1) (b : Tch js σ1 σ2) : Tch (is ++ js) σ σ2 :=
  ⟨b.1.trans a.1, fun j h => by rw [b.2 j (fun z => h (List.mem_append_right _ z)), a.2 j (fun z => h (List.mem_append_left _ z))]⟩
theorem Tch.set (σ : L2.St) (i : Nat) (v : Option V) : Tch [i] σ (σ.set i v) := ⟨by rw [List.length_set], fun j h => by rw [List.getElem?_set_ne (fun z => h (by rw [z]; exact List.mem_singleton.mpr rfl))]⟩
def GOk (K : PySem.W.Frag) (t : TG) (is : List Nat) (γ : DG) : Prop := ∀ H0 G0 Gs G ρ σ Hs H r v (Q : L2.St → Hp → Prop) (κ : List Sl → Prop), Rel K H0 G0 Gs ρ σ Hs → Ext Hs Gs H G → RvR K H0 G Hs H r v → γ r ρ κ →
  (∀ ρ' σ', Rel K H0 G0 G ρ' σ' H → Tch is σ σ' → κ ρ' → Q σ' H) → t v σ H Q
def GsOk (K : PySem.W.Frag) (t : TGs) (is : List Nat) (γ : List Dat → List Sl → (List Sl → Prop) → Prop) : Prop := ∀ H0 G0 G ρ σ H ds vs (Q : L2.St → Hp → Prop) (κ : List Sl → Prop), Rel K H0 G0 G ρ σ H → RdL K G ds vs → γ ds ρ κ →
  (∀ ρ' σ', Rel K H0 G0 G ρ' σ' H → Tch is σ σ' → κ ρ' → Q σ' H) → t vs σ H Q
structure MG1 (X : Cx) (e : Expr) (is : List Nat) (γ : DG) : Prop where
  ex : ∃ t, PG X e t ∧ GOk X.K t is γ
structure MGs (X : Cx) (es : List Expr) (is : List Nat) (γ : List Dat → List Sl → (List Sl → Prop) → Prop) : Prop where
  ex : ∃ t, PGs X es t ∧ GsOk X.K t is γ
def gN (i : Nat) : DG := fun r ρ κ => match slOf r with
  | some s => κ (ρ.set i s)
  | none => False
def gsNil : List Dat → List Sl → (List Sl → Prop) → Prop := fun ds ρ κ => match ds with
  | [] => κ ρ
  | _ => False
def gsCons (g : DG) (h : List Dat → List Sl → (List Sl → Prop) → Prop) : List Dat → List Sl → (List Sl → Prop) → Prop := fun ds ρ κ => match ds with
  | d :: es => g (.v d) ρ (fun ρ' => h es ρ' κ)
  | [] => False
def gT (n : Nat) (h : List Dat → List Sl → (List Sl → Prop) → Prop) : DG := fun r ρ κ => asQ r fun ds => ds.length = n ∧ h ds ρ κ
theorem pg_or {X : Cx} {e : Expr} {t u : TG} (h : PG X e t) (h' : PG X e u) : PG X e (fun v σ H Q => t v σ H Q ∨ u v σ H Q) :=
  ⟨fun pins s σ H v w Q I r q => q.elim (fun q => h.run pins s σ H v w Q I r q) fun q => h'.run pins s σ H v w Q I r q⟩
def gL (n : Nat) (h : List Dat → List Sl → (List Sl → Prop) → Prop) : DG := fun r ρ κ => asL r fun ds => ds.length = n ∧ h ds ρ κ
section
variable {X : Cx} {e : Expr} {es : List Expr} {g : DG} {h : List Dat → List Sl → (List Sl → Prop) → Prop} {pos : Pos}
theorem mg_name (i : Nat) {x : Str} (hN : X.N.Nodup) (hi : X.N[i]? = some x := by rfl) (hx : Loc X.env.scope x := by first | exact Or.inl rfl | exact Or.inr rfl) (hf : X.fn x = true ∨ X.env.scope.names.lookup x = some .local := by first | exact .inl rfl | exact .inr rfl | assumption) : MG1 X (.Name x pos) [i] (gN i) := by
  refine ⟨_, pg_name hN hi hx hf, fun H0 G0 Gs G ρ σ Hs H r v Q κ R x hr hg hq => ?_⟩
  unfold gN at hg
  split at hg
  · rename_i s e
    exact hq _ _ (R.store x hr e i) (Tch.set _ _ _) hg
  · exact hg.elim
theorem mgs_nil : MGs X [] [] gsNil := by
  refine ⟨_, pgs_nil, fun H0 G0 G ρ σ H ds vs Q κ R hr hg hq => ?_⟩
  cases ds with
  | nil => unfold RdL at hr; exact ⟨hr, hq _ _ R (Tch.refl _) hg⟩
  | cons d ds => exact hg.elim
theorem mgs_cons {is js : List Nat} (h1 : MG1 X e is g) (h2 : MGs X es js h) (hs : (assignEach (e :: es) X.env).map (·.2) = assign e X.env :: (assignEach es X.env).map (·.2) := by rfl) : MGs X (e :: es) (is ++ js) (gsCons g h) := by
  obtain ⟨t, pg, og⟩ := h1
  obtain ⟨u, pu, ou⟩ := h2
  refine ⟨_, pgs_cons pg pu hs, fun H0 G0 G ρ σ H ds vs Q κ R hr hg hq => ?_⟩
  cases ds with
  | nil => exact hg.elim
  | cons d ds =>
    unfold RdL at hr
    obtain ⟨v, r, rfl, h1, h2⟩ := hr
    refine ⟨v, r, rfl, ?_⟩
    exact og H0 G0 G G ρ σ H H (.v d) v _ _ R (Ext.refl R.ext.s) h1 hg fun ρ' σ' R' t' h' => ou H0 G0 G ρ' σ' H ds r Q κ R' h2 h' fun ρ2 σ2 R2 t2 h3 => hq ρ2 σ2 R2 (t'.trans t2) h3
theorem mg_tup {k n : Nat} {is : List Nat} (hc : X.calm = true) (hh : MGs X es is h) (hn : (assignEach es X.env).length = n := by rfl) (hst : (assignEach es X.env).findIdx? (·.1) = none := by rfl) : MG1 X (.Tuple es k pos) is (gT n h) := by
  obtain ⟨t, pg, og⟩ := hh
  refine ⟨_, pg_or (pg_tup hc pg hn hst) (pg_lst hc pg hn hst), fun H0 G0 Gs G ρ σ Hs H r v Q κ R x hr hg hq => ?_⟩
  obtain ⟨ds, e, h1, h2⟩ := asQ.of hg
  rcases e with e | e
  · obtain ⟨l, vs, rfl, b, c⟩ := hr.lst x.s (R.on x).ext.h e
    exact .inr ⟨l, vs, rfl, b, by rw [← c.len]; exact h1, og H0 G0 G ρ σ H ds vs Q κ (R.on x) c h2 hq⟩
  · obtain rfl := Rv.tup_of e
    obtain ⟨a, vs, rfl, b, c⟩ := rvT x.s hr
    exact .inl ⟨a, vs, rfl, b, by rw [← c.len]; exact h1, og H0 G0 G ρ σ H ds vs Q κ (R.on x) c h2 hq⟩
theorem mg_lst {k n : Nat} {is : List Nat} (hc : X.calm = true) (hh : MGs X es is h) (hn : (assignEach es X.env).length = n := by rfl) (hst : (assignEach es X.env).findIdx? (·.1) = none := by rfl) : MG1 X (.Tuple es k pos) is (gL n h) := by
  obtain ⟨t, pg, og⟩ := hh
  refine ⟨_, pg_lst hc pg hn hst, fun H0 G0 Gs G ρ σ Hs H r v Q κ R x hr hg hq => ?_⟩
  obtain ⟨ds, e, h1, h2⟩ := asL.of hg
  obtain ⟨l, vs, rfl, b, c⟩ := hr.lst x.s (R.on x).ext.h e
  exact ⟨l, vs, rfl, b, by rw [← c.len]; exact h1, og H0 G0 G ρ σ H ds vs Q κ (R.on x) c h2 hq⟩
end

/-! ### small statements -/
def sNil : DS := fun κ ρ => κ.nx ρ
def sSeq (a b : DS) : DS := fun κ ρ => a { κ with nx := b κ } ρ
def sDrop (a : DE) : DS := fun κ ρ => a ρ (fun _ => κ.nx ρ) (fun nm => κ.ex nm ρ)
def sAsg (a : DE) (g : DG) : DS := fun κ ρ => a ρ (fun r => g r ρ κ.nx) (fun nm => κ.ex nm ρ)
def sRet (a : DE) : DS := fun κ ρ => a ρ (fun r => retOk r = true ∧ κ.rt r) (fun nm => κ.ex nm ρ)
/-- return x -/
def sRetV (i : Nat) : DS := fun κ ρ => match ρ[i]? with
  | some (.fz d) => κ.rt (.v d)
  | some (.ow ds) => κ.rt (.n ds)
  | _ => False
def sRetN : DS := fun κ _ => κ.rt (.v .non)
def sIf (c : DT) (a b : DS) : DS := fun κ ρ => c ρ (fun k => if k = true then a κ ρ else b κ ρ) (fun nm => κ.ex nm ρ)
def sBrk : DS := fun κ ρ => κ.bk ρ
def sCnt : DS := fun κ ρ => κ.ct ρ
/-- first x becomes data that stays -/
def sFrz (i : Nat) (a : DS) : DS := fun κ ρ => a κ (frzSl ρ i)
/-- x op= e -/
def sAug (i : Nat) (a : DE) (k : Rv → Rv → (Rv → Prop) → (Str → Prop) → Prop) : DS := fun κ ρ => dVar i ρ (fun x => a ρ (fun y => k x y (fun z => gN i z ρ κ.nx) (fun nm => κ.ex nm ρ)) (fun nm => κ.ex nm ρ)) (fun nm => κ.ex nm ρ)
theorem Ext.trans' {H0 G0 G H H' G' : Hp} (a : Ext H0 G0 H G) (b : Ext H0 G H' G') : Ext H0 G0 H' G' := ⟨b.h, a.g.trans b.g, b.s, fun x hx hg => b.f x hx (a.f x hx hg)⟩
theorem Rel.sub {H0 G0 G H G' H' : Hp} {ρ ρ' : List Sl} {σ σ' : L2.St} (R : Rel K H0 G0 G ρ σ H) (R' : Rel K H0 G G' ρ' σ' H') : Rel K H0 G0 G' ρ' σ' H' := ⟨R.ext.trans' R'.ext, R'.len, R'.sl, R'.inj⟩
theorem Rel.here {H0 G0 G H : Hp} {ρ : List Sl} {σ : L2.St} (R : Rel K H0 G0 G ρ σ H) : Rel K H0 G G ρ σ H := ⟨⟨R.ext.h, Same.refl _, R.ext.s, fun _ _ h => h⟩, R.len, R.sl, R.inj⟩
theorem EndsOk.sub {mg : MG} {W : WX} {H0 G0 G H : Hp} {ρ : List Sl} {σ : L2.St} {D : Ends} {κ : DEnds} (E : EndsOk K mg W H0 G0 D κ) (R : Rel K H0 G0 G ρ σ H) : EndsOk K mg W H0 G D κ :=
  ⟨fun ρ' σ' H' G' R' k => E.nx ρ' σ' H' G' (R.sub R') k, fun ρ' σ' H' G' R' k => E.bk ρ' σ' H' G' (R.sub R') k,
   fun ρ' σ' H' G' R' k => E.ct ρ' σ' H' G' (R.sub R') k, fun v H' G' r x h o k => E.rt v H' G' r (R.ext.trans' x) h o k,
   fun nm cls ρ' σ' H' G' R' h k => E.ex nm cls ρ' σ' H' G' (R.sub R') h k⟩
/-- Ext from a state to a later one of the same entry -/
theorem Rel.ret {H0 G0 G H H' G' : Hp} {ρ : List Sl} {σ : L2.St} (R : Rel K H0 G0 G ρ σ H) (x : Ext H G H' G') : Ext H0 G0 H' G' := R.ext.trans x
theorem RvR.ret {H0 G' H H' : Hp} {r : Rv} {v : V} (s : Same H0 H) (h : RvR K H0 G' H H' r v) : RvR K H0 G' H0 H' r v := h.back s
theorem dVar_ok {H0 G0 G H : Hp} {ρ : List Sl} {σ : L2.St} {i : Nat} {κ : Rv → Prop} {ε : Str → Prop} (R : Rel K H0 G0 G ρ σ H) (h : dVar i ρ κ ε) : ∃ v r, σ[i]? = some (some v) ∧ RvR K H0 G H H r v ∧ κ r := by
  unfold dVar at h
  split at h
  · rename_i d e
    obtain ⟨v, e1, e2⟩ := R.sl _ _ e
    exact ⟨v, .v d, e1, e2, h⟩
  · rename_i d e
    obtain ⟨l, vs, e1, e2, e3, e4, e5⟩ := R.sl _ _ e
    exact ⟨.ref l, .o d, e1, ⟨l, vs, rfl, e2, e3⟩, h⟩
  · rename_i d e
    obtain ⟨l, vs, e1, e2, e3⟩ := R.sl _ _ e
    exact ⟨.ref l, .b d, e1, ⟨l, vs, rfl, e2, e3⟩, h⟩
  · exact h.elim
section
variable {X : Cx} {W : WX} {st : Stmt} {rest : List Stmt} {e tg : Expr} {a b : DS} {d : DE} {g : DG} {p : DT} {pos : Pos}
theorem mss_nil : MSs X W [] sNil := ⟨_, pss_nil, fun H0 G0 G ρ σ H D κ R h E => E.nx ρ σ H G R h⟩
theorem mss_cons (h1 : MS X W st a) (h2 : MSs X W rest b) : MSs X W (st :: rest) (sSeq a b) := by
  obtain ⟨t, pa, oa⟩ := h1
  obtain ⟨u, pb, ob⟩ := h2
  refine ⟨_, pss_cons pa pb, fun H0 G0 G ρ σ H D κ R h E => ?_⟩
  exact oa H0 G0 G ρ σ H _ _ R h ⟨fun ρ' σ' H' G' R' k => ob H0 G0 G' ρ' σ' H' D κ R' k E, E.bk, E.ct, E.rt, E.ex⟩
theorem mss_one (h1 : MS X W st a) : MSs X W [st] a := by
  obtain ⟨t, pa, oa⟩ := h1
  exact ⟨_, pss_one pa, oa⟩
theorem ms_drop (h : ME X W e d) (hs : swapsWith e none pos.line X.env = pure false := by rfl) : MS X W (.Expr e pos) (sDrop d) := by
  obtain ⟨t, pa, oa⟩ := h
  refine ⟨_, ps_expr pa hs, fun H0 G0 G ρ σ H D κ R h E => ?_⟩
  exact oa H0 G0 G ρ σ H _ _ _ R h (fun v H' G' r x hr k => E.nx ρ σ H' G' (R.on x) k) (E.xok R)
theorem ms_asg {is : List Nat} (h : ME X W e d) (hg : MG1 X tg is g) (hs : swapsWithSole [tg] e pos.line X.env = pure false := by rfl) (hw : swappedStores [tg] e X.env = pure none := by rfl) (h1 : (assignEach [tg] X.env).map (·.2) = [assign tg X.env] := by rfl) : MS X W (.Assign [tg] e pos) (sAsg d g) := by
  obtain ⟨t, pa, oa⟩ := h
  obtain ⟨u, pg, og⟩ := hg
  refine ⟨_, ps_asg pa pg hs hw h1, fun H0 G0 G ρ σ H D κ R h E => ?_⟩
  exact oa H0 G0 G ρ σ H _ _ _ R h (fun v H' G' r x hr k => og H0 G0 G G' ρ σ H H' r v _ _ R x hr k fun ρ' σ' R' _ k' => E.nx ρ' σ' H' G' R' k') (E.xok R)
theorem ms_set (i : Nat) {x : Str} {pos' : Pos} (hN : X.N.Nodup) (h : ME X W e d) (hi : X.N[i]? = some x := by rfl) (hx : Loc X.env.scope x := by first | exact Or.inl rfl | exact Or.inr rfl)
    (hs : swapsWith e (some (.Name x pos')) pos.line X.env = pure false := by rfl) (hf : X.fn x = true ∨ X.env.scope.names.lookup x = some .local := by first | exact .inl rfl | exact .inr rfl | assumption) : MS X W (.Assign [.Name x pos'] e pos) (sAsg d (gN i)) := by
  obtain ⟨t, pa, oa⟩ := h
  obtain ⟨u, pg, og⟩ := mg_name (pos := pos') i hN hi hx hf
  refine ⟨_, ps_set hN hi hx pa hs hf, fun H0 G0 G ρ σ H D κ R h E => ?_⟩
  refine oa H0 G0 G ρ σ H _ _ _ R h (fun v H' G' r x hr k => ?_) (E.xok R)
  unfold gN at k
  split at k
  · rename_i s e
    exact E.nx _ _ _ _ (R.store x hr e i) k
  · exact k.elim
theorem ms_ret (h : ME X W e d) : MS X W (.Return (some e) pos) (sRet d) := by
  obtain ⟨t, pa, oa⟩ := h
  refine ⟨_, ps_ret pa, fun H0 G0 G ρ σ H D κ R h E => ?_⟩
  exact oa H0 G0 G ρ σ H _ _ _ R h (fun v H' G' r x hr k => E.rt v H' G' r (R.ret x) (RvR.ret (G' := G') R.ext.h hr) k.1 k.2) (E.xok R)
theorem ms_retV (i : Nat) {x : Str} {p2 : Pos} (hN : X.N[i]? = some x := by rfl) (hv : Vis X.env.scope x := by first | exact Or.inl rfl | exact Or.inr (Or.inl rfl) | exact Or.inr (Or.inr rfl)) (hd : (x == ("__debug__" : Str)) = false := by decide)
    (hcd : (x == ("__classdict__" : Str)) = false := by decide) : MS X W (.Return (some (.Name x p2)) pos) (sRetV i) := by
  refine ⟨_, ps_ret (pe_var hN hv hd hcd), fun H0 G0 G ρ σ H D κ R h E => ?_⟩
  unfold sRetV at h
  split at h
  · rename_i d e
    obtain ⟨v, e1, e2⟩ := R.sl _ _ e
    exact ⟨v, e1, E.rt v H G (.v d) R.ext e2 rfl h⟩
  · rename_i d e
    obtain ⟨l, vs, e1, e2, e3, e4, e5⟩ := R.sl _ _ e
    exact ⟨.ref l, e1, E.rt _ H G (.n d) R.ext ⟨l, vs, rfl, e2, e3, e5, e4⟩ rfl h⟩
  · exact h.elim
theorem ms_retN : MS X W (.Return none pos) sRetN := ⟨_, ps_retN, fun H0 G0 G ρ σ H D κ R h E => E.rt _ H G (.v .non) R.ext (by show RdD X.K _ _ _; unfold RdD; rfl) rfl h⟩
theorem ms_if {c : Expr} {xs ys : List Stmt} (hc : MT X W c p) (ha : MSs X W xs a) (hb : MSs X W ys b) : MS X W (.If c xs ys pos) (sIf p a b) := by
  obtain ⟨t, pc, oc⟩ := hc
  obtain ⟨u, pa, oa⟩ := ha
  obtain ⟨w, pb, ob⟩ := hb
  refine ⟨_, ps_if pc pa pb, fun H0 G0 G ρ σ H D κ R h E => ?_⟩
  refine oc H0 G0 G ρ σ H _ _ _ R h (fun k H' G' x hk => ?_) (E.xok R)
  have R' := R.on x
  by_cases hkk : k = true
  · rw [if_pos hkk] at hk ⊢
    exact oa H0 G0 G' ρ σ H' D κ R' hk E
  · rw [if_neg hkk] at hk ⊢
    exact ob H0 G0 G' ρ σ H' D κ R' hk E
theorem ms_pass : MS X W (.Pass pos) sNil := ⟨_, ps_pass, fun H0 G0 G ρ σ H D κ R h E => E.nx ρ σ H G R h⟩
theorem ms_break : MS X W (.Break pos) sBrk := ⟨_, ps_break, fun H0 G0 G ρ σ H D κ R h E => E.bk ρ σ H G R h⟩
theorem ms_continue : MS X W (.Continue pos) sCnt := ⟨_, ps_continue, fun H0 G0 G ρ σ H D κ R h E => E.ct ρ σ H G R h⟩
theorem ms_frz (i : Nat) (h : MS X W st a) : MS X W st (sFrz i a) := by
  obtain ⟨t, pa, oa⟩ := h
  refine ⟨t, pa, fun H0 G0 G ρ σ H D κ R h E => ?_⟩
  obtain ⟨G', R'⟩ := R.frz i
  exact oa H0 G0 G' _ σ H D κ R' h E
theorem mss_frz {sts : List Stmt} (i : Nat) (h : MSs X W sts a) : MSs X W sts (sFrz i a) := by
  obtain ⟨t, pa, oa⟩ := h
  refine ⟨t, pa, fun H0 G0 G ρ σ H D κ R h E => ?_⟩
  obtain ⟨G', R'⟩ := R.frz i
  exact oa H0 G0 G' _ σ H D κ R' h E
theorem ms_aug (i : Nat) {x : Str} {op : Operator} {r : R2} {k : Rv → Rv → (Rv → Prop) → (Str → Prop) → Prop} {pos' : Pos} (ho : OpR X (inplaceOp op) r) (hr : Op2 X.K r k) (hN : X.N.Nodup) (h : ME X W e d) (hi : X.N[i]? = some x := by rfl) (hx : Loc X.env.scope x := by first | exact Or.inl rfl | exact Or.inr rfl)
    (hf : X.fn x = true ∨ X.env.scope.names.lookup x = some .local := by first | exact .inl rfl | exact .inr rfl | assumption) : MS X W (.AugAssign (.Name x pos') op e pos) (sAug i d k) := by
  obtain ⟨t, pa, oa⟩ := h
  have hip : PIp X op r := fun pins s σ H x y v u Q I rx ry q => ho pins s σ H x y v u Q I rx ry q
  refine ⟨_, ps_aug hN hi hx pa hip hf, fun H0 G0 G ρ σ H D κ R h E => ?_⟩
  obtain ⟨v, r1, e1, h1, k1⟩ := dVar_ok R h
  refine ⟨v, e1, ?_⟩
  refine oa H0 G0 G ρ σ H _ _ _ R k1 (fun u H1 G1 y x1 h2 k2 => ?_) (E.xok R)
  have R1 := R.on x1
  refine hr H0 G1 H H1 r1 y v u _ _ _ x1.s R1.ext.h x1.h (h1.on x1) h2 k2 (fun w H2 G2 z x2 h3 k3 => ?_)
  unfold gN at k3
  split at k3
  · rename_i s e
    exact E.nx _ _ _ _ (R1.store x2 h3 e i) k3
  · exact k3.elim
theorem ms_augI (i : Nat) {x : Str} {pos' : Pos} (hN : X.N.Nodup) (h : ME X W e d) (hi : X.N[i]? = some x := by rfl) (hx : Loc X.env.scope x := by first | exact Or.inl rfl | exact Or.inr rfl)
    (hf : X.fn x = true ∨ X.env.scope.names.lookup x = some .local := by first | exact .inl rfl | exact .inr rfl | assumption) : MS X W (.AugAssign (.Name x pos') .Add e pos) (sAug i d (kI0 fun i j => .int (i + j))) :=
  ms_aug i iop_add (op2_I0 rdI) hN h hi hx hf
end
end DL
namespace DL
open PySem PySem.Spec PyProof.Rows L2
variable {K : PySem.W.Frag}

/-- what a body stands in -/
structure Cn (X : Cx) (W : WX) (k : Nat) : Prop where
  tk : Takes X W
  hp : PassesOwn (model X.prog X.w) X.A X.env X.xe
  hc : X.calm = true
  hr : Room k X.A
  nd : X.N.Nodup

/-! ### own lists: append, pop, x[i] = e -/
theorem ow_at {H0 G0 G H : Hp} {ρ : List Sl} {σ : L2.St} {i : Nat} {ds : List Dat} (R : Rel K H0 G0 G ρ σ H) (e : ρ[i]? = some (.ow ds)) : ∃ l vs, σ[i]? = some (some (.ref l)) ∧ H l = some (.lst vs) ∧ RdL K G ds vs := by
  obtain ⟨l, vs, a, b, c, _⟩ := R.sl _ _ e
  exact ⟨l, vs, a, b, c⟩
def sApp (i : Nat) (a : DE) : DS := fun κ ρ => match ρ[i]? with
  | some (.ow ds) => a ρ (fun r => match frz1 r with
    | some d => ds.length < sizeLine ∧ κ.nx (ρ.set i (.ow (ds ++ [d])))
    | none => False) (fun nm => κ.ex nm ρ)
  | _ => False
def sPop (i : Nat) (g : DG) : DS := fun κ ρ => match ρ[i]? with
  | some (.ow ds) => onS ds[ds.length - 1]? fun d => g (.v d) (ρ.set i (.ow ds.dropLast)) κ.nx
  | _ => False
def gDrop : DG := fun _ ρ κ => κ ρ
def sSetI (i : Nat) (a ix : DE) : DS := fun κ ρ => match ρ[i]? with
  | some (.ow ds) => a ρ (fun r => ix ρ (fun k => asI k fun k => match frz1 r with
    | some d => onS (ixN ds.length k) fun j => κ.nx (ρ.set i (.ow (ds.set j d)))
    | none => False) (fun nm => κ.ex nm ρ)) (fun nm => κ.ex nm ρ)
  | _ => False
section
variable {X : Cx} {W : WX} {e ix tg : Expr} {d dix : DE} {g : DG} {pos : Pos} {x : Str}
theorem ms_app (i : Nat) {p2 p3 p4 : Pos} (h : ME X W e d) (hN : X.N[i]? = some x := by rfl) (hv : Vis X.env.scope x := by first | exact Or.inl rfl | exact Or.inr (Or.inl rfl) | exact Or.inr (Or.inr rfl)) (hd : (x == ("__debug__" : Str)) = false := by decide)
    (hcd : (x == ("__classdict__" : Str)) = false := by decide) (hbase : attributeBase (.Name x p2) "append" X.env (eval (.Name x p2) X.env) = eval (.Name x p2) X.env := by rfl)
    (hs : swapsWith (.Call (.Attribute (.Name x p2) "append" p3) [e] [] p4) none pos.line X.env = pure false := by rfl) (hst : starEach (e :: []) X.env = (false, eval e X.env) :: starEach [] X.env := by rfl) (hline : (p3.endLine == p4.line) = true := by rfl)
    (hfew : ((backTo p4 (starEach (e :: []) X.env)).all (!·.1) && (backToKw p4 (keywordEach [] X.env)).all (·.1.isSome) && decide ((e :: []).length + ([] : List Keyword).length + (if ([] : List Keyword).isEmpty then 0 else 1) < 30)) = true := by rfl) :
    MS X W (.Expr (.Call (.Attribute (.Name x p2) "append" p3) [e] [] p4) pos) (sApp i d) := by
  obtain ⟨t, pa, oa⟩ := h
  refine ⟨_, ps_expr (pe_bm PySem.F.plainAttrs_list PySem.F.slot_list_append PySem.F.type_list_append mt_append (pe_var hN hv hd hcd) (pa_cons pa pa_nil hst) hbase (hfew := hfew) (hline := hline) (hs := hst)) hs, fun H0 G0 G ρ σ H D κ R h E => ?_⟩
  unfold sApp at h
  split at h
  · rename_i ds eo
    obtain ⟨l, vs, e1, e2, e3⟩ := ow_at R eo
    refine ⟨.ref l, e1, .inl ⟨rfl, _, SqL.of e2⟩, ?_⟩
    refine oa H0 G0 G ρ σ H _ _ _ R h (fun v H1 G1 r x1 hr k => ?_) (E.xok R)
    split at k
    · rename_i d ed
      obtain ⟨G2, x2, s2, r2⟩ := frz1_ok (Same.refl G1) x1 hr ed
      have R2 := R.on x2
      refine ⟨l, vs, v, rfl, rfl, x1.h _ _ e2, by rw [← e3.len]; exact k.1, ?_⟩
      exact E.nx _ _ _ _ (R2.write eo e1 ((e3.mono x2.g).append (RdL.cons r2 RdL.nil))) k.2
    · exact k.elim
  · exact h.elim
theorem ms_pop (i : Nat) {is : List Nat} {p2 p3 p4 : Pos} (hg : MG1 X tg is g) (hN : X.N[i]? = some x := by rfl) (hv : Vis X.env.scope x := by first | exact Or.inl rfl | exact Or.inr (Or.inl rfl) | exact Or.inr (Or.inr rfl)) (hd : (x == ("__debug__" : Str)) = false := by decide)
    (hcd : (x == ("__classdict__" : Str)) = false := by decide) (hbase : attributeBase (.Name x p2) "pop" X.env (eval (.Name x p2) X.env) = eval (.Name x p2) X.env := by rfl) (hline : (p3.endLine == p4.line) = true := by rfl)
    (hs : swapsWithSole [tg] (.Call (.Attribute (.Name x p2) "pop" p3) [] [] p4) pos.line X.env = pure false := by rfl) (hw : swappedStores [tg] (.Call (.Attribute (.Name x p2) "pop" p3) [] [] p4) X.env = pure none := by rfl) (h1 : (assignEach [tg] X.env).map (·.2) = [assign tg X.env] := by rfl) :
    MS X W (.Assign [tg] (.Call (.Attribute (.Name x p2) "pop" p3) [] [] p4) pos) (sPop i g) := by
  obtain ⟨u, pg, og⟩ := hg
  refine ⟨_, ps_asg (pe_bm0 PySem.F.plainAttrs_list PySem.F.slot_list_pop PySem.F.type_list_pop mt_pop (pe_var hN hv hd hcd) hbase hline) pg hs hw h1, fun H0 G0 G ρ σ H D κ R h E => ?_⟩
  unfold sPop at h
  split at h
  · rename_i ds eo
    obtain ⟨l, vs, e1, e2, e3⟩ := ow_at R eo
    obtain ⟨d, ed, h⟩ := onS.of h
    · obtain ⟨v, ev, rv⟩ := e3.get ed
      refine ⟨.ref l, e1, .inl ⟨rfl, _, SqL.of e2⟩, l, vs, v, rfl, rfl, e2, by rw [← e3.len]; exact ev, ?_⟩
      have R2 := R.write eo e1 e3.dropLast
      exact og H0 G0 G G _ σ _ _ (.v d) v _ _ R2 (Ext.refl R2.ext.s) rv h fun ρ' σ' R' _ k => E.nx ρ' σ' _ G R' k
  · exact h.elim
theorem ms_popD (i : Nat) {p2 p3 p4 : Pos} (hN : X.N[i]? = some x := by rfl) (hv : Vis X.env.scope x := by first | exact Or.inl rfl | exact Or.inr (Or.inl rfl) | exact Or.inr (Or.inr rfl)) (hd : (x == ("__debug__" : Str)) = false := by decide)
    (hcd : (x == ("__classdict__" : Str)) = false := by decide) (hbase : attributeBase (.Name x p2) "pop" X.env (eval (.Name x p2) X.env) = eval (.Name x p2) X.env := by rfl) (hline : (p3.endLine == p4.line) = true := by rfl)
    (hs : swapsWith (.Call (.Attribute (.Name x p2) "pop" p3) [] [] p4) none pos.line X.env = pure false := by rfl) :
    MS X W (.Expr (.Call (.Attribute (.Name x p2) "pop" p3) [] [] p4) pos) (sPop i gDrop) := by
  refine ⟨_, ps_expr (pe_bm0 PySem.F.plainAttrs_list PySem.F.slot_list_pop PySem.F.type_list_pop mt_pop (pe_var hN hv hd hcd) hbase hline) hs, fun H0 G0 G ρ σ H D κ R h E => ?_⟩
  unfold sPop at h
  split at h
  · rename_i ds eo
    obtain ⟨l, vs, e1, e2, e3⟩ := ow_at R eo
    obtain ⟨d, ed, h⟩ := onS.of h
    · obtain ⟨v, ev, rv⟩ := e3.get ed
      refine ⟨.ref l, e1, .inl ⟨rfl, _, SqL.of e2⟩, l, vs, v, rfl, rfl, e2, by rw [← e3.len]; exact ev, ?_⟩
      exact E.nx _ σ _ G (R.write eo e1 e3.dropLast) h
  · exact h.elim
theorem ms_setI (i : Nat) {p2 p3 : Pos} (h : ME X W e d) (hix : ME X W ix dix) (hN : X.N[i]? = some x := by rfl) (hv : Vis X.env.scope x := by first | exact Or.inl rfl | exact Or.inr (Or.inl rfl) | exact Or.inr (Or.inr rfl)) (hd : (x == ("__debug__" : Str)) = false := by decide)
    (hcd : (x == ("__classdict__" : Str)) = false := by decide)
    (ha : ∀ v, assign (.Subscript (.Name x p2) ix p3) X.env v = (do
      let ov ← holding [v] (eval (.Name x p2) X.env)
      let iv ← holding [v, ov] (eval ix X.env)
      standAt p3
      holding [v, ov, iv] (setItem ov iv v)
      release [v, ov, iv] []) := by intro _; rfl)
    (hs : swapsWithSole [.Subscript (.Name x p2) ix p3] e pos.line X.env = pure false := by rfl) (hw : swappedStores [.Subscript (.Name x p2) ix p3] e X.env = pure none := by rfl) (h1 : (assignEach [.Subscript (.Name x p2) ix p3] X.env).map (·.2) = [assign (.Subscript (.Name x p2) ix p3) X.env] := by rfl) :
    MS X W (.Assign [.Subscript (.Name x p2) ix p3] e pos) (sSetI i d dix) := by
  obtain ⟨t, pa, oa⟩ := h
  obtain ⟨u, pi, oi⟩ := hix
  refine ⟨_, ps_asg pa (pg_sub (pe_var hN hv hd hcd) pi set_list ha) hs hw h1, fun H0 G0 G ρ σ H D κ R h E => ?_⟩
  unfold sSetI at h
  split at h
  · rename_i ds eo
    obtain ⟨l, vs, e1, e2, e3⟩ := ow_at R eo
    refine oa H0 G0 G ρ σ H _ _ _ R h (fun v H1 G1 r x1 hr k => ?_) (E.xok R)
    refine ⟨.ref l, e1, ?_⟩
    have R1 := R.on x1
    refine oi H0 G0 G1 ρ σ H1 _ _ _ R1 k (fun w H2 G2 z x2 hz k2 => ?_) (E.xok R1)
    obtain ⟨j, rfl, k3⟩ := asI.of k2
    have hz : RdD X.K G2 (.int j) w := hz
    unfold RdD at hz
    have x12 := x1.trans x2
    split at k3
    · rename_i d ed
      obtain ⟨jj, ej, k3⟩ := onS.of k3
      · obtain ⟨G3, x3, s3, r3⟩ := frz1_ok (Same.refl G2) x12 (hr.on x2) ed
        have R3 := R.on x3
        refine ⟨l, vs, j, jj, rfl, hz, x12.h _ _ e2, by rw [← e3.len]; exact ej, ?_⟩
        exact E.nx _ _ _ _ (R3.write eo e1 ((e3.mono x3.g).set jj r3)) k3
    · exact k3.elim
  · exact h.elim
end

/-! ### a, b = x, y -/
def sPar (i j : Nat) (a : DA) : DS := fun κ ρ => a ρ (fun rs => match rs with
  | [x, y] => (match frz1 x, frz1 y with
    | some d, some e => κ.nx ((ρ.set i (.fz d)).set j (.fz e))
    | _, _ => False)
  | _ => False) (fun nm => κ.ex nm ρ)
section
variable {X : Cx} {W : WX} {pos : Pos}
theorem ms_par (i j : Nat) {x y : Str} {a b : Expr} {da : DA} {px py pt : Pos} {kt k2 : Nat} {pt2 : Pos} (hc : X.calm = true) (hN : X.N.Nodup) (ha : MA X W [a, b] da) (hij : i ≠ j := by decide) (hi : X.N[i]? = some x := by rfl) (hj : X.N[j]? = some y := by rfl)
    (hx : X.env.scope.names.lookup x = some .local := by rfl) (hy : X.env.scope.names.lookup y = some .local := by rfl)
    (hw : swappedStores [.Tuple [.Name x px, .Name y py] kt pt] (.Tuple [a, b] k2 pt2) X.env = pure (some [x, y]) := by rfl)
    (hs : swapsWithSole [.Tuple [.Name x px, .Name y py] kt pt] (.Tuple [a, b] k2 pt2) pos.line X.env = pure false := by rfl) : MS X W (.Assign [.Tuple [.Name x px, .Name y py] kt pt] (.Tuple [a, b] k2 pt2) pos) (sPar i j da) := by
  obtain ⟨t, pa, oa⟩ := ha
  refine ⟨_, ps_par hc hN hi hj hij hx hy pa hw hs, fun H0 G0 G ρ σ H D κ R h E => ?_⟩
  refine oa H0 G0 G ρ σ H _ _ _ R h (fun vs H1 G1 rs x1 hr k => ?_) (E.xok R)
  split at k
  · rename_i x y
    split at k
    · rename_i d e ed ee
      obtain ⟨G2, x2, s2, r2⟩ := frzs_ok (ds := [d, e]) x1 hr (by unfold frzs frzs frzs; rw [ed, ee])
      unfold RdL at r2
      obtain ⟨v, w1, rfl, h1, h2⟩ := r2
      unfold RdL at h2
      obtain ⟨w, w2, rfl, h3, h4⟩ := h2
      unfold RdL at h4
      subst h4
      have R1 := R.store (r := .v d) (i := i) x2 h1 rfl
      have R2 := R1.store (r := .v e) (i := j) (Ext.refl x2.s) h3 rfl
      exact ⟨v, w, rfl, E.nx _ _ _ _ R2 k⟩
    · exact k.elim
  · exact k.elim
end

/-! ### what is walked -/
abbrev DI := List Sl → (List Dat → Prop) → (Str → Prop) → Prop
structure ItOk (K : PySem.W.Frag) (J : It) (ds : List Dat) (B G : Hp) : Prop where
  go : ∀ i H, Same B H → Same G H → i < ds.length → J.go i H
  stop : ∀ i H, Same B H → Same G H → ds.length ≤ i → J.stop i H
  yld : ∀ i H x H' Gc d, Same B H → Same G Gc → Same Gc H → ds[i]? = some d → J.yld i H x H' → ∃ G', Ext H Gc H' G' ∧ RdD K G' d x
def IOk (K : PySem.W.Frag) (c : Bool) (mg : MG) (W : WX) (wi : TI) (δ : DI) : Prop := ∀ H0 G0 G ρ σ H (R : It → Hp → Prop) κ ε, Rel K H0 G0 G ρ σ H → δ ρ κ ε →
  (∀ J H' G' ds, Ext H G H' G' → ItOk K J ds (if c = true then H' else H0) G' → κ ds → R J H') → XOk mg W H G σ ε → wi σ H R
structure MI (X : Cx) (W : WX) (c : Bool) (tg iter : Expr) (δ : DI) : Prop where
  ex : ∃ wi, PI X tg iter wi ∧ IOk X.K c X.mg W wi δ
/-- a list (or a tuple); c: one's own too -/
def stays : Bool → Rv → Bool
  | false, .o _ => false
  | _, _ => true
def iLst (c : Bool) (a : DE) : DI := fun ρ κ ε => a ρ (fun r => stays c r = true ∧ asQ r κ) ε
def iSeq (K : PySem.W.Frag) (tl : TE) : TI := fun σ H R => tl σ H fun x H1 => ∃ a, x = .ref a ∧ (((∃ xs, SqL K H1 a xs) ∧ R (Itl K a) H1) ∨ ((∃ xs, SqT K H1 a xs) ∧ R (Itt K a) H1))
theorem pi_seq {X : Cx} {tg l : Expr} {tl : TE} (hl : PE X l tl) : PI X tg l (iSeq X.K tl) := by
  refine ⟨fun pins s σ H R I h => ?_⟩
  refine thn (hl.run pins s σ H _ I h) fun v s1 ⟨x, H1, I1, r1, q1⟩ => ?_
  obtain ⟨a, e, q1⟩ := q1
  subst e
  cases r1
  rcases q1 with ⟨⟨xs, hq⟩, q⟩ | ⟨⟨xs, hq⟩, q⟩
  · obtain ⟨its, rv, p, hz⟩ := I1.list hq
    refine wpAny_pyIter_list p.isList ?_
    refine ⟨s1.heap.objs.size, [s1.heap.objs.size], _, _, H1, rfl, I1.kept (t' := s1.toks) fun b o e => Heap.get?_push_of_some _ e, turn_list a _, ⟨_, Heap.get?_push_size _ rfl, rfl, rfl⟩, fun b hb => ?_, q⟩
    have e : b = s1.heap.objs.size := by simpa using hb
    subst e
    exact I1.fpOk (Nat.le_refl _) (I1.hok.fresh (Nat.le_refl _))
  · obtain ⟨its, rv, p, hz⟩ := I1.tuple hq
    refine wpAny_pyIter_tuple (show s1.heap.IsTuple a its.toArray from p) ?_
    refine ⟨s1.heap.objs.size, [s1.heap.objs.size], _, _, H1, rfl, I1.kept (t' := s1.toks) fun b o e => Heap.get?_push_of_some _ e, turn_tuple a _, ⟨_, Heap.get?_push_size _ rfl, rfl, rfl⟩, fun b hb => ?_, q⟩
    have e : b = s1.heap.objs.size := by simpa using hb
    subst e
    exact I1.fpOk (Nat.le_refl _) (I1.hok.fresh (Nat.le_refl _))
theorem itOk_list {K : PySem.W.Frag} {a : Addr} {vs : List V} {ds : List Dat} {B G : Hp} (h : ∀ H, Same B H → Same G H → SqL K H a vs) (r : RdL K G ds vs) : ItOk K (Itl K a) ds B G := by
  refine ⟨fun i H b g hi => ?_, fun i H b g hi => ⟨vs, h H b g, by rw [← r.len]; exact hi⟩, fun i H x H' Gc d b g gc hd hy => ?_⟩
  · rw [r.len] at hi
    exact ⟨vs, _, h H b g, List.getElem?_eq_getElem hi⟩
  · obtain ⟨rfl, q⟩ := hy
    obtain ⟨v, e1, e2⟩ := r.get hd
    have e := q vs (h _ b (g.trans gc))
    rw [e1] at e
    cases e
    exact ⟨Gc, Ext.refl gc, RdD.mono g _ _ e2⟩
theorem itOk_tup {K : PySem.W.Frag} {a : Addr} {vs : List V} {ds : List Dat} {B G : Hp} (h : ∀ H, Same B H → Same G H → SqT K H a vs) (r : RdL K G ds vs) : ItOk K (Itt K a) ds B G := by
  refine ⟨fun i H b g hi => ?_, fun i H b g hi => ⟨vs, h H b g, by rw [← r.len]; exact hi⟩, fun i H x H' Gc d b g gc hd hy => ?_⟩
  · rw [r.len] at hi
    exact ⟨vs, _, h H b g, List.getElem?_eq_getElem hi⟩
  · obtain ⟨rfl, q⟩ := hy
    obtain ⟨v, e1, e2⟩ := r.get hd
    have e := q vs (h _ b (g.trans gc))
    rw [e1] at e
    cases e
    exact ⟨Gc, Ext.refl gc, RdD.mono g _ _ e2⟩
theorem itOk_rng {lo : Int} {n : Nat} {B G : Hp} : ItOk K (Itr lo n) ((List.range n).map fun (i : Nat) => Dat.int (lo + (i : Int))) B G := by
  refine ⟨fun i H b g hi => (show i < n by simpa using hi), fun i H b g hi => (show n ≤ i by simpa using hi), fun i H x H' Gc d b g gc hd hy => ?_⟩
  obtain ⟨rfl, rfl⟩ := hy
  refine ⟨Gc, Ext.refl gc, ?_⟩
  rw [List.getElem?_map] at hd
  by_cases hi : i < n
  · rw [List.getElem?_range hi] at hd
    cases hd
    unfold RdD; rfl
  · rw [List.getElem?_eq_none (by simpa using hi)] at hd
    exact nomatch hd
section
variable {X : Cx} {W : WX} {tg e a b : Expr} {d da db : DE} {c : Bool}
theorem mi_list (h : ME X W e d) : MI X W c tg e (iLst c d) := by
  obtain ⟨t, pa, oa⟩ := h
  refine ⟨_, pi_seq pa, fun H0 G0 G ρ σ H R κ ε RR h hq hx => ?_⟩
  refine oa H0 G0 G ρ σ H _ _ ε RR h (fun v H1 G1 r x1 hr k => ?_) hx
  obtain ⟨ks, k⟩ := k
  obtain ⟨ds, ed, k⟩ := asQ.of k
  have R1 := RR.on x1
  rcases ed with ed | ed
  rotate_left
  · obtain rfl := Rv.tup_of ed
    have hr : RdD X.K G1 (.tup ds) v := hr
    unfold RdD at hr
    obtain ⟨l, vs, rfl, b2, c2⟩ := hr
    exact ⟨l, rfl, .inr ⟨⟨vs, SqT.of (x1.s _ _ b2)⟩, hq _ H1 G1 ds x1 (itOk_tup (vs := vs) (fun H b g => SqT.of (g _ _ b2)) c2) k⟩⟩
  obtain ⟨l, vs, rfl, b1, c1⟩ := hr.lst x1.s R1.ext.h ed
  refine ⟨l, rfl, .inl ⟨⟨vs, b1⟩, ?_⟩⟩
  by_cases hcc : c = true
  · refine hq _ H1 G1 ds x1 ?_ k
    rw [if_pos hcc]
    exact itOk_list (vs := vs) (fun H b g => rd_mono b b1) c1
  · cases r with
    | v d0 =>
      have ed : d0 = .lst ds := ed
      subst ed
      have hr : RdD X.K G1 (.lst ds) (.ref l) := hr
      unfold RdD at hr
      obtain ⟨l', vs', e1, b2, c2⟩ := hr
      cases e1
      exact hq _ H1 G1 ds x1 (itOk_list (vs := vs') (fun H b g => rd_mono g b2) c2) k
    | n es =>
      injection ed with ed; subst ed
      obtain ⟨l', vs', e1, b2, c2, n2, g2⟩ := hr
      cases e1
      obtain ⟨y, s⟩ := x1.put n2 b2 g2
      exact hq _ H1 _ es y (itOk_list (vs := vs') (fun H b g => sq_of (g _ _ upd_same)) (c2.mono s)) k
    | b es =>
      injection ed with ed; subst ed
      obtain ⟨l', vs', e1, b2, c2⟩ := hr
      cases e1
      refine hq _ H1 G1 es x1 ?_ k
      rw [if_neg hcc]
      exact itOk_list (vs := vs') (fun H b g => rd_mono b b2) c2
    | o es =>
      cases c with
      | true => exact absurd rfl hcc
      | false => exact nomatch ks
def iTupD (a : DE) : DI := fun ρ κ ε => a ρ (fun r => match r with
  | .v (.tup ds) => κ ds
  | _ => False) ε
theorem mi_tup (h : ME X W e d) : MI X W c tg e (iTupD d) := by
  obtain ⟨t, pa, oa⟩ := h
  refine ⟨_, pi_tup pa, fun H0 G0 G ρ σ H R κ ε RR h hq hx => ?_⟩
  refine oa H0 G0 G ρ σ H _ _ ε RR h (fun v H1 G1 r x1 hr k => ?_) hx
  split at k
  · rename_i ds
    have hr : RdD X.K G1 (.tup ds) v := hr
    unfold RdD at hr
    obtain ⟨l, vs, rfl, b2, c2⟩ := hr
    exact ⟨l, rfl, ⟨vs, SqT.of (x1.s _ _ b2)⟩, hq _ H1 G1 ds x1 (itOk_tup (vs := vs) (fun H b g => SqT.of (g _ _ b2)) c2) k⟩
  · exact k.elim
def rngD (lo : Int) (n : Nat) : List Dat := (List.range n).map fun (i : Nat) => Dat.int (lo + (i : Int))
def iRng1 (a : DE) : DI := fun ρ κ ε => a ρ (fun x => asI x fun j => (-(2 ^ 62) ≤ j ∧ j < 2 ^ 62) ∧ κ (rngD 0 j.toNat)) ε
def iRng2 (a b : DE) : DI := fun ρ κ ε => a ρ (fun x => b ρ (fun y => asI x fun i => asI y fun j => (-(2 ^ 62) ≤ i ∧ i < 2 ^ 62 ∧ -(2 ^ 62) ≤ j ∧ j < 2 ^ 62) ∧ κ (rngD i (j - i).toNat)) ε) ε
theorem mi_rng1 {p pos : Pos} (hm : X.mg "range" = none) (ha : ME X W a da) (hg : Gl X "range" := by rfl) (hs : starEach [a] X.env = [(false, eval a X.env)] := by rfl) : MI X W c tg (.Call (.Name "range" p) [a] [] pos) (iRng1 da) := by
  obtain ⟨t, pa, oa⟩ := ha
  refine ⟨_, pi_range1 hg hm (pa_cons pa pa_nil hs) hs, fun H0 G0 G ρ σ H R κ ε RR h hq hx => ?_⟩
  refine oa H0 G0 G ρ σ H _ _ ε RR h (fun v H1 G1 r x1 hr k => ?_) hx
  obtain ⟨j, rfl, k1, k2⟩ := asI.of k
  have hr : RdD X.K G1 (.int j) v := hr
  unfold RdD at hr
  subst hr
  exact ⟨j, rfl, k1.1, k1.2, hq _ H1 G1 _ x1 itOk_rng k2⟩
theorem mi_rng2 {p pos : Pos} (hm : X.mg "range" = none) (ha : ME X W a da) (hb : ME X W b db) (hg : Gl X "range" := by rfl) (hs : starEach [a, b] X.env = [(false, eval a X.env), (false, eval b X.env)] := by rfl) (hs2 : starEach [b] X.env = [(false, eval b X.env)] := by rfl) : MI X W c tg (.Call (.Name "range" p) [a, b] [] pos) (iRng2 da db) := by
  obtain ⟨t, pa, oa⟩ := ha
  obtain ⟨u, pb, ob⟩ := hb
  refine ⟨_, pi_range2 hg hm (pa_cons pa (pa_cons pb pa_nil hs2) (by rw [hs, hs2])) hs hs2, fun H0 G0 G ρ σ H R κ ε RR h hq hx => ?_⟩
  refine oa H0 G0 G ρ σ H _ _ ε RR h (fun v H1 G1 r x1 hr k => ?_) hx
  refine ob H0 G0 G1 ρ σ H1 _ _ ε (RR.on x1) k (fun w H2 G2 z x2 hz k2 => ?_) (hx.on x1)
  obtain ⟨i, rfl, k3⟩ := asI.of k2
  obtain ⟨j, rfl, k4, k5⟩ := asI.of k3
  have hr : RdD X.K G1 (.int i) v := hr
  have hz : RdD X.K G2 (.int j) w := hz
  unfold RdD at hr hz
  subst hr hz
  exact ⟨i, j, rfl, k4, hq _ H2 G2 _ (x1.trans x2) itOk_rng k5⟩
end

/-! ### for -/
def sForL (g : DG) (b : DS) (κ : DEnds) : List Dat → List Sl → Prop
  | [], ρ => κ.nx ρ
  | d :: ds, ρ => g (.v d) ρ (fun ρ1 => b { κ with nx := sForL g b κ ds, ct := sForL g b κ ds, bk := κ.nx } ρ1)
def sFor (i : DI) (g : DG) (b : DS) : DS := fun κ ρ => i ρ (fun ds => sForL g b κ ds ρ) (fun nm => κ.ex nm ρ)
section
variable {X : Cx} {W : WX} {tg iter : Expr} {body : List Stmt} {i : DI} {g : DG} {b : DS} {pos : Pos}
theorem ms_for {k : Nat} {is : List Nat} (C : Cn X W k) (hi : MI X W false tg iter i) (hg : MG1 X tg is g) (hb : MSs X W body b) (hs : ∀ x, foldedSetIterable iter X.env x = pure x := by intro _; rfl) : MS X W (.For tg iter body [] pos) (sFor i g b) := by
  obtain ⟨wi, pi, oi⟩ := hi
  obtain ⟨tg', pg, og⟩ := hg
  obtain ⟨tb, pb, ob⟩ := hb
  refine ⟨_, ps_for C.hp C.hc pi pg pb hs, fun H0 G0 G ρ σ H D κ R h E => ?_⟩
  refine oi H0 G0 G ρ σ H _ _ _ R h (fun J H1 G1 ds x1 hj hk => ?_) (E.xok R)
  have R1 := R.on x1
  have E1 := E.sub R1
  have hj : ItOk X.K J ds H0 G1 := hj
  refine ⟨fun i m σ H => ∃ ρ G', Rel X.K H0 G1 G' ρ σ H ∧ m = ds.length - i ∧ sForL g b κ (ds.drop i) ρ, ⟨ds.length, ρ, G1, R1.here, rfl, by simpa using hk⟩, ?_⟩
  rintro i m σ' H' ⟨ρ', G', R', rfl, hl⟩
  by_cases hlt : i < ds.length
  · refine .inr ⟨hj.go i H' R'.ext.h (R'.ext.g.trans R'.ext.s) hlt, fun σ2 H2 => ∃ ρ2 G2, Rel X.K H0 G1 G2 ρ2 σ2 H2 ∧ sForL g b κ (ds.drop (i + 1)) ρ2, fun σ2 H2 ⟨ρ2, G2, R2, h2⟩ => ⟨ds.length - (i + 1), by omega, ρ2, G2, R2, rfl, h2⟩, fun x H2 hy => ?_⟩
    have hd : ds[i]? = some ds[i] := List.getElem?_eq_getElem hlt
    obtain ⟨G2, x2, r2⟩ := hj.yld i H' x H2 G' _ R'.ext.h R'.ext.g R'.ext.s hd hy
    rw [List.drop_eq_getElem_cons hlt] at hl
    refine og H0 G1 G' G2 ρ' σ' H' H2 (.v ds[i]) x _ _ R' x2 r2 hl fun ρ3 σ3 R3 _ k3 => ?_
    exact ob H0 G1 G2 ρ3 σ3 H2 _ _ R3 k3 ⟨fun ρ4 σ4 H4 G4 R4 k4 => ⟨ρ4, G4, R4, k4⟩, fun ρ4 σ4 H4 G4 R4 k4 => E1.nx ρ4 σ4 H4 G4 R4 k4, fun ρ4 σ4 H4 G4 R4 k4 => ⟨ρ4, G4, R4, k4⟩, E1.rt, E1.ex⟩
  · refine .inl ⟨hj.stop i H' R'.ext.h (R'.ext.g.trans R'.ext.s) (by omega), ?_⟩
    rw [List.drop_eq_nil_of_le (by omega)] at hl
    exact E1.nx ρ' σ' H' G' R' hl
end

/-! ### while -/
def wIter (c : DT) (b : DS) (κ : DEnds) : Nat → List Sl → Prop
  | 0, _ => False
  | n + 1, ρ => c ρ (fun k => if k = true then b { κ with nx := wIter c b κ n, ct := wIter c b κ n, bk := κ.nx } ρ else κ.nx ρ) (fun nm => κ.ex nm ρ)
def sWhile (c : DT) (b : DS) : DS := fun κ ρ => ∃ n, wIter c b κ n ρ
section
variable {X : Cx} {W : WX} {t : Expr} {body : List Stmt} {c : DT} {b : DS} {pos : Pos}
theorem ms_while {k : Nat} (C : Cn X W k) (hc : MT X W t c) (hb : MSs X W body b) : MS X W (.While t body [] pos) (sWhile c b) := by
  obtain ⟨tc, pc, oc⟩ := hc
  obtain ⟨tb, pb, ob⟩ := hb
  refine ⟨_, ps_while C.hp pc pb, fun H0 G0 G ρ σ H D κ R ⟨n, h⟩ E => ?_⟩
  refine ⟨fun m σ H => ∃ ρ G', Rel X.K H0 G0 G' ρ σ H ∧ wIter c b κ m ρ, ⟨n, ρ, G, R, h⟩, ?_⟩
  rintro m σ' H' ⟨ρ', G', R', hm⟩
  cases m with
  | zero => exact hm.elim
  | succ m =>
    refine oc H0 G0 G' ρ' σ' H' _ _ _ R' hm (fun kk H2 G2 x2 hk => ?_) (E.xok R')
    have R2 := R'.on x2
    by_cases hkk : kk = true
    · rw [if_pos hkk] at hk ⊢
      refine ⟨fun σ3 H3 => ∃ ρ3 G3, Rel X.K H0 G0 G3 ρ3 σ3 H3 ∧ wIter c b κ m ρ3, fun σ3 H3 h3 => ⟨m, Nat.lt_succ_self m, h3⟩, ?_⟩
      exact ob H0 G0 G2 ρ' σ' H2 _ _ R2 hk ⟨fun ρ4 σ4 H4 G4 R4 k4 => ⟨ρ4, G4, R4, k4⟩, fun ρ4 σ4 H4 G4 R4 k4 => E.nx ρ4 σ4 H4 G4 R4 k4, fun ρ4 σ4 H4 G4 R4 k4 => ⟨ρ4, G4, R4, k4⟩, E.rt, E.ex⟩
    · rw [if_neg hkk] at hk ⊢
      exact E.nx _ _ _ _ R2 hk
end
end DL
namespace DL
open PySem PySem.Spec PyProof.Rows L2
variable {K : PySem.W.Frag}

/-! ### comprehensions -/
def wipeS (ρ : List Sl) : List Nat → List Sl
  | [] => ρ
  | v :: vs => (wipeS ρ vs).set v .un
theorem wipeS_len (ρ : List Sl) : ∀ vs : List Nat, (wipeS ρ vs).length = ρ.length
  | [] => rfl
  | v :: vs => by unfold wipeS; rw [List.length_set, wipeS_len ρ vs]
theorem wipeS_at (ρ : List Sl) : ∀ (vs : List Nat) (i : Nat) (s : Sl), (wipeS ρ vs)[i]? = some s → s = Sl.un ∨ (ρ[i]? = some s ∧ i ∉ vs)
  | [], i, s, h => .inr ⟨h, by simp⟩
  | v :: vs, i, s, h => by
    unfold wipeS at h
    by_cases hv : v = i
    · subst hv
      by_cases hl : v < (wipeS ρ vs).length
      · rw [List.getElem?_set_self hl] at h; cases h; exact .inl rfl
      · rw [List.getElem?_eq_none (by rw [List.length_set]; omega)] at h; exact nomatch h
    · rw [List.getElem?_set_ne hv] at h
      rcases wipeS_at ρ vs i s h with e | ⟨a, b⟩
      · exact .inl e
      · exact .inr ⟨a, fun z => (List.mem_cons.mp z).elim (fun q => hv q.symm) b⟩
theorem Rel.wipe {H0 G0 G H : Hp} {ρ : List Sl} {σ : L2.St} (R : Rel K H0 G0 G ρ σ H) (vs : List Nat) : Rel K H0 G0 G (wipeS ρ vs) (wipe σ vs) H :=
  R.weak (wipeS_len ρ vs) (wipe_length σ vs) fun i s h => by
    rcases wipeS_at ρ vs i s h with e | ⟨a, b⟩
    · exact .inl e
    · exact .inr ⟨a, wipe_out b⟩
theorem wipe_in {σ : L2.St} : ∀ {vs : List Nat} {i : Nat}, i ∈ vs → i < σ.length → (wipe σ vs)[i]? = some none
  | v :: vs, i, h, hl => by
    unfold wipe
    by_cases hv : v = i
    · subst hv
      rw [List.getElem?_set_self (by rw [wipe_length]; exact hl)]
    · rw [List.getElem?_set_ne hv]
      exact wipe_in ((List.mem_cons.mp h).elim (fun q => absurd q.symm hv) id) hl
theorem wipe_tch {is vs : List Nat} {σ σ' : L2.St} (h : Tch is (wipe σ vs) σ') (s : ∀ i ∈ is, i ∈ vs) : wipe σ' vs = wipe σ vs := by
  apply List.ext_getElem?
  intro i
  have hl : σ'.length = σ.length := by rw [h.1, wipe_length]
  by_cases hi : i ∈ vs
  · by_cases hb : i < σ.length
    · rw [wipe_in hi (by rw [hl]; exact hb), wipe_in hi hb]
    · rw [List.getElem?_eq_none (by rw [wipe_length]; omega), List.getElem?_eq_none (by rw [wipe_length]; omega)]
  · rw [wipe_out hi, h.2 i (fun z => hi (s i z))]
def lcL (g : DG) (t : DT) (e : DE) (ρ : List Sl) (κ : Rv → Prop) (acc : List Dat) : List Dat → Prop
  | [] => κ (.n acc)
  | d :: ds => g (.v d) ρ (fun ρ1 => t ρ1 (fun b => if b = true then e ρ1 (fun r => match frz1 r with
    | some x => acc.length < sizeLine ∧ lcL g t e ρ κ (acc ++ [x]) ds
    | none => False) (fun _ => False) else lcL g t e ρ κ acc ds) (fun _ => False))
def dLc (i : DI) (g : DG) (t : DT) (e : DE) (vs : List Nat) : DE := fun ρ κ ε => i ρ (fun ds => lcL g t e (wipeS ρ vs) κ [] ds) ε
abbrev W0 : WX := fun _ _ _ _ => False
theorem XOk.none {mg : MG} {H G : Hp} {σ : L2.St} : XOk mg W0 H G σ (fun _ => False) := fun _ _ _ _ _ _ k => k
structure MTs (X : Cx) (W : WX) (es : List Expr) (δ : DT) : Prop where
  ex : ∃ t, PTs X es t ∧ TOk X.K X.mg W t δ
def tYesD : DT := fun _ κ _ => κ true
theorem mts_nil {X : Cx} {W : WX} : MTs X W [] tYesD := ⟨_, pts_nil, fun H0 G0 G ρ σ H Q κ ε R h hq hx => hq _ H G (Ext.refl R.ext.s) h⟩
theorem mts_one {X : Cx} {W : WX} {c : Expr} {p : DT} (h : MT X W c p) : MTs X W [c] p := by
  obtain ⟨t, pa, oa⟩ := h
  exact ⟨_, pts_one pa, oa⟩
theorem eok_lc {mg : MG} {W : WX} {wi : TI} {g : TG} {tt : TT} {te : TE} {vs is : List Nat} {di : DI} {dg : DG} {dt : DT} {de : DE} (hi : IOk K true mg W wi di) (hg : GOk K g is dg) (ht : TOk K mg W0 tt dt) (he : EOk K mg W0 te de) (hv : ∀ i ∈ is, i ∈ vs) : EOk K mg W (tLc wi g tt te vs) (dLc di dg dt de vs) := by
  intro H0 G0 G ρ σ H Q κ ε R h hq hx
  refine hi H0 G0 G ρ σ H _ _ ε R h (fun J H1 G1 ds x1 hj hk => ?_) hx
  have hj : ItOk K J ds H1 G1 := hj
  intro D nD
  have x0 := Ext.newH (o := HO.lst []) x1.s nD
  have nDH : H D = none := x1.h.free nD
  have nDG : G1 D = none := x1.s.free nD
  refine ⟨fun i m H' => ∃ (acc : List Dat) (vacc : List V) (G' : Hp), Ext H G H' G' ∧ Ext H1 G1 H' G' ∧ H' D = some (.lst vacc) ∧ RdL K G' acc vacc ∧ G' D = none ∧ m = ds.length - i ∧ lcL dg dt de (wipeS ρ vs) κ acc (ds.drop i),
    ⟨ds.length, [], [], G1, x1.trans x0, x0, upd_same, RdL.nil, nDG, rfl, by simpa using hk⟩, ?_⟩
  rintro i m H' ⟨acc, vacc, G', xs, xn, hD, rD, gD, rfl, hl⟩
  by_cases hlt : i < ds.length
  · refine .inr ⟨hj.go i H' xn.h (xn.g.trans xn.s) hlt, fun H2 => ∃ (acc : List Dat) (vacc : List V) (G' : Hp), Ext H G H2 G' ∧ Ext H1 G1 H2 G' ∧ H2 D = some (.lst vacc) ∧ RdL K G' acc vacc ∧ G' D = none ∧ lcL dg dt de (wipeS ρ vs) κ acc (ds.drop (i + 1)),
      fun H2 ⟨a, b, c, h1, h2, h3, h4, h5, h6⟩ => ⟨ds.length - (i + 1), by omega, a, b, c, h1, h2, h3, h4, h5, rfl, h6⟩, fun x H2 hy => ?_⟩
    have hd : ds[i]? = some ds[i] := List.getElem?_eq_getElem hlt
    obtain ⟨G2, x2, r2⟩ := hj.yld i H' x H2 G' _ xn.h xn.g xn.s hd hy
    rw [List.drop_eq_getElem_cons hlt] at hl
    have Rw := (R.on xs).wipe vs
    refine hg H0 G0 G' G2 _ _ H' H2 (.v ds[i]) x _ _ Rw x2 r2 hl fun ρ3 σ3 R3 t3 k3 => ?_
    refine ⟨wipe_tch t3 hv, ?_⟩
    refine ht H0 G0 G2 ρ3 σ3 H2 _ _ _ R3 k3 (fun b H3 G3 x3 hb => ?_) XOk.none
    have xs3 := (xs.trans x2).trans x3
    have xn3 := (xn.trans x2).trans x3
    have gD3 : G3 D = none := (x2.trans x3).f D (by rw [hD]; exact fun z => nomatch z) gD
    by_cases hbb : b = true
    · rw [if_pos hbb] at hb ⊢
      refine he H0 G0 G3 ρ3 σ3 H3 _ _ _ (R3.on x3) hb (fun y H4 G4 r x4 hr k4 => ?_) XOk.none
      split at k4
      · rename_i z ez
        obtain ⟨G5, x5, s5, r5⟩ := frz1_ok (Same.refl G4) x4 hr ez
        have hD3 := x3.h _ _ (x2.h _ _ hD)
        have hD4 : H4 D = some (.lst vacc) := x4.h _ _ hD3
        have gD5 : G5 D = none := x5.f D (by rw [hD3]; exact fun z => nomatch z) gD3
        refine ⟨vacc, hD4, by rw [← rD.len]; exact k4.1, ?_⟩
        have xs5 := xs3.trans x5
        have xn5 := xn3.trans x5
        have wr : ∀ {A : Hp}, Same A H4 → A D = none → Same A (upd H4 D (.lst (vacc ++ [y]))) := fun s n b o hb' => by
          rw [upd_ne (fun z => by rw [z, n] at hb'; exact nomatch hb')]
          exact s _ _ hb'
        refine ⟨acc ++ [z], vacc ++ [y], G5, ⟨wr xs5.h nDH, xs5.g, wr xs5.s gD5, xs5.f⟩, ⟨wr xn5.h nD, xn5.g, wr xn5.s gD5, xn5.f⟩, upd_same, ?_, gD5, k4.2⟩
        exact (rD.mono ((x2.g.trans x3.g).trans x5.g)).append (RdL.cons r5 RdL.nil)
      · exact k4.elim
    · rw [if_neg hbb] at hb ⊢
      exact ⟨acc, vacc, G3, xs3, xn3, x3.h _ _ (x2.h _ _ hD), rD.mono (x2.g.trans x3.g), gD3, hb⟩
  · refine .inl ⟨hj.stop i H' xn.h (xn.g.trans xn.s) (by omega), ?_⟩
    rw [List.drop_eq_nil_of_le (by omega)] at hl
    exact hq (.ref D) H' G' (.n acc) xs ⟨D, vacc, rfl, hD, rD, nDH, gD⟩ hl
section
variable {X : Cx} {W : WX} {elt tg iter : Expr} {ifs : List Expr} {scope : Scope} {own : List (Str × Nat)} {is : List Nat} {di : DI} {dg : DG} {dt : DT} {de : DE} {pos : Pos}
/-- one reading for all the contexts of a block -/
theorem blk_e {F : Type} {Y : F → Cx} {mg : MG} {W : WX} {e : Expr} {δ : DE} (hm : ∀ f, (Y f).mg = mg) (hk : ∀ f, (Y f).K = K) (h : ∀ f, ME (Y f) W e δ) : ∃ t, (∀ f, PE (Y f) e t) ∧ EOk K mg W t δ := by
  refine ⟨fun σ H Q => ∀ f t, PE (Y f) e t → EOk K mg W t δ → t σ H Q, fun f => ?_, fun H0 G0 G ρ σ H Q κ ε R h1 hq hx f t _ ok => ok H0 G0 G ρ σ H Q κ ε R h1 hq hx⟩
  obtain ⟨t, pe, ok⟩ := h f
  rw [hm f, hk f] at ok
  exact ⟨fun pins s σ H Q I q => pe.run pins s σ H Q I (q f t pe ok)⟩
theorem blk_t {F : Type} {Y : F → Cx} {mg : MG} {W : WX} {es : List Expr} {δ : DT} (hm : ∀ f, (Y f).mg = mg) (hk : ∀ f, (Y f).K = K) (h : ∀ f, MTs (Y f) W es δ) : ∃ t, (∀ f, PTs (Y f) es t) ∧ TOk K mg W t δ := by
  refine ⟨fun σ H Q => ∀ f t, PTs (Y f) es t → TOk K mg W t δ → t σ H Q, fun f => ?_, fun H0 G0 G ρ σ H Q κ ε R h1 hq hx f t _ ok => ok H0 G0 G ρ σ H Q κ ε R h1 hq hx⟩
  obtain ⟨t, pe, ok⟩ := h f
  rw [hm f, hk f] at ok
  exact ⟨fun pins s σ H Q I q => pe.run pins s σ H Q I (q f t pe ok)⟩
theorem blk_g {F : Type} {Y : F → Cx} {e : Expr} {is : List Nat} {γ : DG} (hk : ∀ f, (Y f).K = K) (h : ∀ f, MG1 (Y f) e is γ) : ∃ t, (∀ f, PG (Y f) e t) ∧ GOk K t is γ := by
  refine ⟨fun v σ H Q => ∀ f t, PG (Y f) e t → GOk K t is γ → t v σ H Q, fun f => ?_, fun H0 G0 Gs G ρ σ Hs H r v Q κ R x hr hg hq f t _ ok => ok H0 G0 Gs G ρ σ Hs H r v Q κ R x hr hg hq⟩
  obtain ⟨t, pe, ok⟩ := h f
  rw [hk f] at ok
  exact ⟨fun pins s σ H v u Q I ru q => pe.run pins s σ H v u Q I ru (q f t pe ok)⟩
abbrev BlkT := Shared × Hp × Addr × List (Str × Addr) × List Addr
abbrev blkX (X : Cx) (scope : Scope) (f : BlkT) : Cx := X.blk f.1 f.2.1 scope (compEnvC scope f.2.2.2.1 f.2.2.1 X.env) f.2.2.2.2
theorem lc_all {k : Nat} (C : Cn X W k) (hi : MI X W true tg iter di) (hv : ∀ i ∈ is, i ∈ own.map (·.2))
    (hg : ∀ f, MG1 (blkX X scope f) tg is dg) (ht : ∀ f, MTs (blkX X scope f) W0 ifs dt) (he : ∀ f, ME (blkX X scope f) W0 elt de) :
    ∃ wi g tt te, PI X tg iter wi ∧ (∀ s H C cl fp, PG (X.blk s H scope (compEnvC scope cl C X.env) fp) tg g) ∧ (∀ s H C cl fp, PTs (X.blk s H scope (compEnvC scope cl C X.env) fp) ifs tt) ∧ (∀ s H C cl fp, PE (X.blk s H scope (compEnvC scope cl C X.env) fp) elt te) ∧
      EOk X.K X.mg W (tLc wi g tt te (own.map (·.2))) (dLc di dg dt de (own.map (·.2))) := by
  obtain ⟨wi, pi, oi⟩ := hi
  obtain ⟨g, pg, og⟩ := blk_g (K := X.K) (Y := blkX X scope) (fun _ => rfl) hg
  obtain ⟨tt, pt, ot⟩ := blk_t (K := X.K) (Y := blkX X scope) (mg := X.mg) (fun _ => rfl) (fun _ => rfl) ht
  obtain ⟨te, pe, oe⟩ := blk_e (K := X.K) (Y := blkX X scope) (mg := X.mg) (fun _ => rfl) (fun _ => rfl) he
  exact ⟨wi, g, tt, te, pi, fun s H C cl fp => pg (s, H, C, cl, fp), fun s H C cl fp => pt (s, H, C, cl, fp), fun s H C cl fp => pe (s, H, C, cl, fp), eok_lc oi og ot oe hv⟩
theorem me_lc {k : Nat} (C : Cn X W k) (hi : MI X W true tg iter di) (ok : BlkOk X.N X.env.scope scope own) (hg : ∀ f, MG1 (blkX X scope f) tg is dg) (ht : ∀ f, MTs (blkX X scope f) W0 ifs dt) (he : ∀ f, ME (blkX X scope f) W0 elt de)
    (hv : ∀ i ∈ is, i ∈ own.map (·.2) := by decide) (hs : ∀ x, foldedSetIterable iter X.env x = pure x := by intro _; rfl) : ME X W (.ListComp elt [⟨tg, iter, ifs, 0⟩] scope pos) (dLc di dg dt de (own.map (·.2))) := by
  obtain ⟨wi, g, tt, te, h1, h2, h3, h4, h5⟩ := lc_all C hi hv hg ht he
  exact ⟨_, pe_lc C.hc C.nd h1 ok h2 h3 h4 hs, h5⟩
/-- y = [..] -/
theorem ms_setLc {k : Nat} (i : Nat) {y : Str} {py spos : Pos} (C : Cn X W k) (hi : MI X W true tg iter di) (ok : BlkOk X.N X.env.scope scope own) (hg : ∀ f, MG1 (blkX X scope f) tg is dg) (ht : ∀ f, MTs (blkX X scope f) W0 ifs dt) (he : ∀ f, ME (blkX X scope f) W0 elt de)
    (hsw : swapsWith (.ListComp elt [⟨tg, iter, ifs, 0⟩] scope pos) (some (.Name y py)) spos.line X.env = pure true) (hy : X.N[i]? = some y := by rfl) (hyl : X.env.scope.names.lookup y = some .local := by rfl) (hv : ∀ i ∈ is, i ∈ own.map (·.2) := by decide) (hs : ∀ x, foldedSetIterable iter X.env x = pure x := by intro _; rfl) :
    MS X W (.Assign [.Name y py] (.ListComp elt [⟨tg, iter, ifs, 0⟩] scope pos) spos) (sAsg (dLc di dg dt de (own.map (·.2))) (gN i)) := by
  obtain ⟨wi, g, tt, te, h1, h2, h3, h4, h5⟩ := lc_all C hi hv hg ht he
  refine ⟨_, ps_setLc C.hc C.nd hy hyl hsw h1 ok h2 h3 h4 hs, fun H0 G0 G ρ σ H D κ R h E => ?_⟩
  refine h5 H0 G0 G ρ σ H _ _ _ R h (fun v H' G' r x hr k => ?_) (E.xok R)
  unfold gN at k
  split at k
  · rename_i s e
    exact E.nx _ _ _ _ (R.store x hr e i) k
  · exact k.elim
end

/-! ### calls of the text's own defs -/
/-- what a def does, over data: the arguments, what is wanted of the value, of an exception's class -/
abbrev Fsp := List Dat → (Rv → Prop) → (Str → Prop) → Prop
/-- an argument is handed over: to be kept (true), to be read (false) -/
def arg1 : Bool → Rv → Option Dat
  | true, r => frz1 r
  | false, r => some r.dat
def conv : List Bool → List Rv → Option (List Dat)
  | [], [] => some []
  | m :: ms, r :: rs => match arg1 m r, conv ms rs with
    | some d, some ds => some (d :: ds)
    | _, _ => none
  | _, _ => none
def ArgR (K : PySem.W.Frag) (G H : Hp) (m : Bool) (d : Dat) (v : V) : Prop := match m with
  | true => RdD K G d v
  | false => RdD K G d v ∨ ∃ l vs es, d = .lst es ∧ v = .ref l ∧ SqL K H l vs ∧ RdL K G es vs
def ArgsR (K : PySem.W.Frag) (G H : Hp) : List Bool → List Dat → List V → Prop
  | [], ds, vs => ds = [] ∧ vs = []
  | m :: ms, ds, vs => ∃ d e v w, ds = d :: e ∧ vs = v :: w ∧ ArgR K G H m d v ∧ ArgsR K G H ms e w
def spOf (K : PySem.W.Frag) (mg : MG) (ms : List Bool) (S : Fsp) : Sp := fun vs H Q E => ∃ G ds, Same G H ∧ ArgsR K G H ms ds vs ∧ ∃ κ ε, S ds κ ε ∧ (∀ v H' G' r, Ext H G H' G' → RvR K H G' H H' r v → retOk r = true → κ r → Q v H') ∧
  (∀ nm cls H' G', Ext H G H' G' → mg nm = some cls → ε nm → E cls none H')
theorem ArgR.mono {G G' H : Hp} (s : Same G G') {m : Bool} {d : Dat} {v : V} (h : ArgR K G H m d v) : ArgR K G' H m d v := by
  cases m with
  | true => exact RdD.mono s _ _ h
  | false =>
    rcases h with h | ⟨l, us, es, a, b, c, f⟩
    · exact .inl (RdD.mono s _ _ h)
    · exact .inr ⟨l, us, es, a, b, c, f.mono s⟩
theorem ArgsR.mono {G G' H : Hp} (s : Same G G') : ∀ {ms : List Bool} {ds : List Dat} {vs : List V}, ArgsR K G H ms ds vs → ArgsR K G' H ms ds vs
  | [], _, _, h => h
  | m :: ms, ds, vs, h => by
    obtain ⟨d, e, v, w, h1, h2, h3, h4⟩ := h
    exact ⟨d, e, v, w, h1, h2, h3.mono s, ArgsR.mono s h4⟩
theorem arg1_ok {H0 G G1 H Gs H' : Hp} {m : Bool} {r : Rv} {v : V} {d : Dat} (s0 : Same H0 H') (s1 : Same G G1) (x : Ext H Gs H' G1) (h : RvR K H0 G H H' r v) (e : arg1 m r = some d) : ∃ G', Ext H Gs H' G' ∧ Same G1 G' ∧ ArgR K G' H' m d v := by
  cases m with
  | true => exact frz1_ok s1 x h e
  | false =>
    have e : some r.dat = some d := e
    injection e with e
    subst e
    refine ⟨G1, x, Same.refl _, ?_⟩
    cases r with
    | v d => exact .inl (RdD.mono s1 _ _ h)
    | n ds => obtain ⟨l, vs, a, b, c, _⟩ := h; exact .inr ⟨l, vs, ds, rfl, a, sq_of b, c.mono s1⟩
    | b ds => obtain ⟨l, vs, a, b, c⟩ := h; exact .inr ⟨l, vs, ds, rfl, a, rd_mono s0 b, c.mono s1⟩
    | o ds => obtain ⟨l, vs, a, b, c⟩ := h; exact .inr ⟨l, vs, ds, rfl, a, sq_of b, c.mono s1⟩
theorem conv_ok {H0 G H Gs H' : Hp} (s0 : Same H0 H') (x : Ext H Gs H' G) : ∀ (ms : List Bool) (rs : List Rv) (vs : List V) (ds : List Dat), RvsR K H0 G H H' rs vs → conv ms rs = some ds → ∃ G', Ext H Gs H' G' ∧ Same G G' ∧ ArgsR K G' H' ms ds vs := by
  intro ms
  induction ms with
  | nil =>
    intro rs vs ds h e
    cases rs with
    | nil => injection e with e; subst e; exact ⟨G, x, Same.refl _, rfl, h⟩
    | cons r rs => exact nomatch e
  | cons m ms ih =>
    intro rs vs ds h e
    cases rs with
    | nil => exact nomatch e
    | cons r rs =>
      obtain ⟨v, w, rfl, h1, h2⟩ := h
      unfold conv at e
      split at e
      · rename_i d es e1 e2
        injection e with e; subst e
        obtain ⟨G1, x1, s1, r1⟩ := ih rs w es h2 e2
        obtain ⟨G2, x2, s2, r2⟩ := arg1_ok s0 s1 x1 h1 e1
        exact ⟨G2, x2, s1.trans s2, d, es, v, w, rfl, rfl, r2, r1.mono s2⟩
      · exact nomatch e
def dCall (ms : List Bool) (S : Fsp) (a : DA) : DE := fun ρ κ ε => a ρ (fun rs => match conv ms rs with
  | some ds => S ds κ ε
  | none => False) ε
end DL
namespace DL
open PySem PySem.Spec PyProof.Rows L2
variable {K : PySem.W.Frag}

theorem sp_run {mg : MG} {W : WX} {H0 G H G1 H1 : Hp} {σ : L2.St} {ms : List Bool} {S : Fsp} {rs : List Rv} {vs : List V} {ds : List Dat} {κ : Rv → Prop} {ε : Str → Prop} {Q : VK} (s0 : Same H0 H1) (x1 : Ext H G H1 G1) (h : RvsR K H0 G1 H H1 rs vs) (e : conv ms rs = some ds) (k : S ds κ ε)
    (hq : ∀ v H' G' r, Ext H G H' G' → RvR K H0 G' H H' r v → κ r → Q v H') (hx : XOk mg W H G σ ε) : spOf K mg ms S vs H1 Q (WE W σ) := by
  obtain ⟨G2, x2, s2, r2⟩ := conv_ok s0 x1 ms rs vs ds h e
  refine ⟨G2, ds, x2.s, r2, κ, ε, k, fun v H' G' r x hr ok kr => ?_, fun nm cls H' G' x h1 h2 => hx nm cls H' G' (x2.trans x) h1 h2⟩
  refine hq v H' G' r (x2.trans x) ?_ kr
  cases r with
  | v d => exact hr
  | n ds => obtain ⟨l, vs, a, b, c, n, g⟩ := hr; exact ⟨l, vs, a, b, c, x2.h.free n, g⟩
  | b ds => exact nomatch ok
  | o ds => exact nomatch ok
section
variable {X : Cx} {W : WX} {e : Expr} {es : List Expr} {da : DA} {x : Str} {p pos : Pos} {f : Addr} {fd : FuncData} {ps : List Str} {ms : List Bool} {S : Fsp} {k j : Nat}
theorem me_call (C : Cn X W k) (F : FnOk X.prog X.w X.K X.mg X.base (L2.CX X.prog X.w) j f fd ps (spOf X.K X.mg ms S)) (hm : X.mg x = some (.ref f)) (hk : PySem.W.keepIn X.K (.ref f) = true) (hb : Binds X.K fd ps []) (ha : MA X W (e :: es) da) (hj : j ≤ k := by decide) (hg : Gl X x := by rfl)
    (hdb : (x == ("__debug__" : Str)) = false := by decide) (he : starEach (e :: es) X.env = (false, eval e X.env) :: starEach es X.env := by rfl) (hpl : (backTo pos (starEach es X.env)).any (·.1) = false := by rfl) :
    ME X W (.Call (.Name x p) (e :: es) [] pos) (dCall ms S da) := by
  obtain ⟨t, pa, oa⟩ := ha
  refine ⟨_, pe_callS F (C.hr.mono hj) hg hm hk hb (fun σ => passAt C.tk σ) pa hdb he hpl, fun H0 G0 G ρ σ H Q κ ε R h hq hx => ?_⟩
  refine oa H0 G0 G ρ σ H _ _ ε R h (fun vs H1 G1 rs x1 hr k1 => ?_) hx
  split at k1
  · rename_i ds ed
    exact sp_run (R.on x1).ext.h x1 hr ed k1 hq hx
  · exact k1.elim
end

/-! ### a def by its body -/
def startSl : List Bool → List Dat → List Sl
  | m :: ms, d :: ds => (if m = true then Sl.fz d else match d with
    | .lst es => Sl.br es
    | d => Sl.fz d) :: startSl ms ds
  | _, _ => []
theorem start_rel {H G : Hp} (s : Same G H) : ∀ {ms : List Bool} {ds : List Dat} {vs : List V}, ArgsR K G H ms ds vs → (startSl ms ds).length = vs.length ∧ ∀ (i : Nat) (t : Sl), (startSl ms ds)[i]? = some t → SlR K H G H t ((vs.map some)[i]?) ∧ ∀ es, t ≠ .ow es
  | [], ds, vs, h => by
    obtain ⟨rfl, rfl⟩ := h
    exact ⟨rfl, fun i t h => by simp [startSl] at h⟩
  | m :: ms, ds, vs, h => by
    obtain ⟨d, e, v, w, rfl, rfl, h3, h4⟩ := h
    obtain ⟨ih1, ih2⟩ := start_rel s h4
    refine ⟨by unfold startSl; rw [List.length_cons, List.length_cons, ih1], fun i t ht => ?_⟩
    cases i with
    | succ i =>
      unfold startSl at ht
      have := ih2 i t (by simpa using ht)
      simpa using this
    | zero =>
      unfold startSl at ht
      simp only [List.getElem?_cons_zero, Option.some.injEq] at ht
      cases m with
      | true =>
        rw [if_pos rfl] at ht
        subst ht
        exact ⟨⟨v, rfl, h3⟩, fun es => fun z => nomatch z⟩
      | false =>
        rw [if_neg Bool.false_ne_true] at ht
        have h3 : RdD K G d v ∨ ∃ l vs es, d = .lst es ∧ v = .ref l ∧ SqL K H l vs ∧ RdL K G es vs := h3
        by_cases hd : ∃ es, d = .lst es
        · obtain ⟨es, rfl⟩ := hd
          subst ht
          refine ⟨?_, fun es => fun z => nomatch z⟩
          rcases h3 with h3 | ⟨l, us, es', a, b, c, f⟩
          · unfold RdD at h3
            obtain ⟨a, us, e1, e2, e3⟩ := h3
            exact ⟨a, us, by rw [e1]; rfl, rd_mono s e2, e3⟩
          · cases a
            exact ⟨l, us, by rw [b]; rfl, c, f⟩
        · have ht' : t = .fz d := by
            rw [← ht]
            cases d with
            | lst es => exact absurd ⟨es, rfl⟩ hd
            | _ => rfl
          subst ht'
          refine ⟨⟨v, rfl, ?_⟩, fun es => fun z => nomatch z⟩
          rcases h3 with h3 | ⟨l, us, es', a, _⟩
          · exact h3
          · exact absurd ⟨es', a⟩ hd
theorem args_len {G H : Hp} : ∀ {ms : List Bool} {ds : List Dat} {vs : List V}, ArgsR K G H ms ds vs → vs.length = ms.length
  | [], ds, vs, h => by
    obtain ⟨rfl, rfl⟩ := h; rfl
  | m :: ms, ds, vs, h => by
    obtain ⟨d, e, v, w, rfl, rfl, h3, h4⟩ := h
    rw [List.length_cons, List.length_cons, args_len h4]
/-- the slots at the entry: n names in all -/
def entry (ms : List Bool) (n : Nat) (ds : List Dat) : List Sl := startSl ms ds ++ List.replicate (n - ms.length) .un
theorem entry_rel {H G : Hp} {ms : List Bool} {ds : List Dat} {vs : List V} {N : List Str} (s : Same G H) (h : ArgsR K G H ms ds vs) : Rel K H G G (entry ms N.length ds) (L2.start N vs) H := by
  obtain ⟨h1, h2⟩ := start_rel s h
  have hl := args_len h
  have at_ : ∀ (i : Nat) (t : Sl), (entry ms N.length ds)[i]? = some t → SlR K H G H t (L2.start N vs)[i]? ∧ ∀ es, t ≠ .ow es := fun i t ht => by
    unfold entry at ht
    unfold L2.start
    by_cases hi : i < (startSl ms ds).length
    · rw [List.getElem?_append_left hi] at ht
      rw [List.getElem?_append_left (by rw [List.length_map, ← h1]; exact hi)]
      exact h2 i t ht
    · rw [List.getElem?_append_right (by omega)] at ht
      rw [List.getElem?_replicate] at ht
      split at ht
      · cases ht; exact ⟨trivial, fun es => fun z => nomatch z⟩
      · exact nomatch ht
  refine ⟨Ext.refl s, ?_, fun i t ht => (at_ i t ht).1, fun i j ds' es l hi hj _ _ => absurd rfl ((at_ i _ hi).2 ds')⟩
  unfold entry L2.start
  rw [List.length_append, List.length_append, List.length_replicate, List.length_replicate, List.length_map, h1, hl]
def endsOf (κ : Rv → Prop) (ε : Str → Prop) : DEnds := { nx := fun _ => κ (.v .non), rt := κ, bk := fun _ => False, ct := fun _ => False, ex := fun nm _ => ε nm }
section
variable {P : Program} {w : World} {K : PySem.W.Frag} {mg : MG} {base : Heap}
/-- what stands around a body -/
abbrev WE0 (E : XK) : WX := fun cls d _ H => E cls d H
theorem fn_dl {x qual : Str} {st : Stmt} {f : Addr} {fd : FuncData} {N ps : List Str} {k : Nat} {ms : List Bool} {S : Fsp} {δ : DS} (F : Fun K x qual st f fd) (sc : FnScope N ps (defScope st)) (hms : ms.length = ps.length)
    (hb : ∀ (cdv : Value) (A : Around) (outer : List Env) (s : Shared) (H : Hp) (E : XK), Cn (cxOf (L2.CX P w) P w K mg base N qual (defScope st) f cdv A outer s H E) (WE0 E) k → MSs (cxOf (L2.CX P w) P w K mg base N qual (defScope st) f cdv A outer s H E) (WE0 E) (defBody st) δ)
    (sem : ∀ ds κ ε, S ds κ ε → δ (endsOf κ ε) (entry ms N.length ds)) : FnOk P w K mg base (L2.CX P w) (k + 1) f fd ps (spOf K mg ms S) := by
  refine F.okX sc (fun vs H Q E ⟨G, ds, _, h, _⟩ => by rw [args_len h, hms]) (fun cdv A outer s H vs Q E hr hsp => ?_)
  obtain ⟨G, ds, s1, h1, κ, ε, hS, hq, hx⟩ := hsp
  have C : Cn (cxOf (L2.CX P w) P w K mg base N qual (defScope st) f cdv A outer s H E) (WE0 E) k := ⟨takes_of rfl rfl rfl rfl, passes_of rfl, rfl, hr, sc.nd⟩
  obtain ⟨t, pt, ot⟩ := hb cdv A outer s H E C
  refine ⟨t, pt, ot H G G _ _ H _ (endsOf κ ε) (entry_rel s1 h1) (sem ds κ ε hS) ?_⟩
  refine ⟨fun ρ σ H' G' R k => ?_, fun _ _ _ _ _ k => k.elim, fun _ _ _ _ _ k => k.elim, fun v H' G' r x hr ok k => hq v H' G' r x hr ok k, fun nm cls ρ σ H' G' R h k => hx nm cls H' G' R.ext h k⟩
  exact hq _ H' G' (.v .non) R.ext (by show RdD K _ _ _; unfold RdD; rfl) rfl k
end
end DL
namespace DL
open PySem PySem.Spec PyProof.Rows L2
variable {K : PySem.W.Frag}

/-! ### built-in functions -/
def OpA (K : PySem.W.Frag) (r : List V → Hp → VK → Prop) (k : List Rv → (Rv → Prop) → Prop) : Prop :=
  ∀ (H0 G Hs H : Hp) (rs : List Rv) (vs : List V) (Q : VK) (κ : Rv → Prop), Same G H → Same H0 H → Same Hs H → RvsR K H0 G Hs H rs vs → k rs κ →
    (∀ w H' G' z, Ext H G H' G' → RvR K H0 G' H H' z w → κ z → Q w H') → r vs H Q
def dB (k : List Rv → (Rv → Prop) → Prop) (a : DA) : DE := fun ρ κ ε => a ρ (fun rs => k rs κ) ε
theorem eok_B {mg : MG} {W : WX} {t : TA} {a : DA} {r : List V → Hp → VK → Prop} {k : List Rv → (Rv → Prop) → Prop} (hr : OpA K r k) (ha : AOk K mg W t a) : EOk K mg W (tCB r t) (dB k a) := by
  intro H0 G0 G ρ σ H Q κ ε R h hq hx
  refine ha H0 G0 G ρ σ H _ _ ε R h (fun vs H1 G1 rs x1 h1 k1 => ?_) hx
  exact hr H0 G1 H H1 rs vs Q κ x1.s (R.on x1).ext.h x1.h h1 k1 fun w H' G' z x2 h2 k2 => hq w H' G' z (x1.trans x2) (h2.back x1.h) k2
section
variable {X : Cx} {W : WX} {x : Str} {p pos : Pos} {e : Expr} {es : List Expr} {da : DA} {id T : String} {r : List V → Hp → VK → Prop} {k : List Rv → (Rv → Prop) → Prop}
theorem me_B (hc : CallR X (.builtin id) r) (hr : OpA X.K r k) (hv : bootBuiltins x = some (.builtin id)) (hm : X.mg x = none) (ha : MA X W (e :: es) da) (hg : Gl X x := by rfl) (hn : x ≠ "__name__" := by decide) (hdb : (x == ("__debug__" : Str)) = false := by decide)
    (he : starEach (e :: es) X.env = (false, eval e X.env) :: starEach es X.env := by rfl) (hpl : (backTo pos (starEach es X.env)).any (·.1) = false := by rfl) : ME X W (.Call (.Name x p) (e :: es) [] pos) (dB k da) := by
  obtain ⟨t, pa, oa⟩ := ha
  exact ⟨_, pe_callB hc hg hm hv pa hn hdb he hpl, eok_B hr oa⟩
theorem me_Ty (hc : CallR X (.type T) r) (hr : OpA X.K r k) (hv : bootBuiltins x = some (.type T)) (hm : X.mg x = none) (ha : MA X W (e :: es) da) (hg : Gl X x := by rfl) (hn : x ≠ "__name__" := by decide) (hdb : (x == ("__debug__" : Str)) = false := by decide)
    (he : starEach (e :: es) X.env = (false, eval e X.env) :: starEach es X.env := by rfl) (hpl : (backTo pos (starEach es X.env)).any (·.1) = false := by rfl) : ME X W (.Call (.Name x p) (e :: es) [] pos) (dB k da) := by
  obtain ⟨t, pa, oa⟩ := ha
  exact ⟨_, pe_callTy hc hg hm hv pa hn hdb he hpl, eok_B hr oa⟩
end
theorem rvs1 {H0 G Hs H : Hp} {x : Rv} {vs : List V} (h : RvsR K H0 G Hs H [x] vs) : ∃ v, vs = [v] ∧ RvR K H0 G Hs H x v := by
  obtain ⟨v, w, rfl, a, b⟩ := h
  have b : w = [] := b
  subst b
  exact ⟨v, rfl, a⟩
theorem rvs2 {H0 G Hs H : Hp} {x y : Rv} {vs : List V} (h : RvsR K H0 G Hs H [x, y] vs) : ∃ v u, vs = [v, u] ∧ RvR K H0 G Hs H x v ∧ RvR K H0 G Hs H y u := by
  obtain ⟨v, w, rfl, a, b⟩ := h
  obtain ⟨u, rfl, c⟩ := rvs1 b
  exact ⟨v, u, rfl, a, c⟩
theorem rvI {H0 G Hs H : Hp} {i : Int} {v : V} (h : RvR K H0 G Hs H (.v (.int i)) v) : v = .int i := by
  have h : RdD K G (.int i) v := h
  unfold RdD at h; exact h
theorem rvB {H0 G Hs H : Hp} {i : Bool} {v : V} (h : RvR K H0 G Hs H (.v (.bl i)) v) : v = .bl i := by
  have h : RdD K G (.bl i) v := h
  unfold RdD at h; exact h
theorem toI {H0 G Hs H : Hp} {i : Int} : RvR K H0 G Hs H (.v (.int i)) (.int i) := by show RdD K _ _ _; unfold RdD; rfl
theorem toB {H0 G Hs H : Hp} {i : Bool} : RvR K H0 G Hs H (.v (.bl i)) (.bl i) := by show RdD K _ _ _; unfold RdD; rfl
/-- a list or a tuple, read -/
theorem rvQ {K : PySem.W.Frag} {H0 G Hs H : Hp} {r : Rv} {v : V} {ds : List Dat} (s : Same G H) (s0 : Same H0 H) (h : RvR K H0 G Hs H r v) (e : r.dat = .lst ds ∨ r.dat = .tup ds) : ∃ l vs, v = .ref l ∧ (SqL K H l vs ∨ SqT K H l vs) ∧ RdL K G ds vs := by
  rcases e with e | e
  · obtain ⟨l, vs, a, b, c⟩ := h.lst s s0 e
    exact ⟨l, vs, a, .inl b, c⟩
  · cases r with
    | v d0 =>
      have e : d0 = .tup ds := e
      subst e
      have h : RdD K G (.tup ds) v := h
      unfold RdD at h
      obtain ⟨l, vs, a, b, c⟩ := h
      exact ⟨l, vs, a, .inr (SqT.of (s _ _ b)), c⟩
    | n _ => exact nomatch e
    | b _ => exact nomatch e
    | o _ => exact nomatch e
def kLen : List Rv → (Rv → Prop) → Prop := fun rs κ => match rs with
  | [x] => asQ x fun ds => κ (.v (.int (ds.length : Int)))
  | _ => False
def kAbs : List Rv → (Rv → Prop) → Prop := fun rs κ => match rs with
  | [x] => asI x fun i => κ (.v (.int (if i < 0 then -i else i)))
  | _ => False
def kMax2 : List Rv → (Rv → Prop) → Prop := fun rs κ => match rs with
  | [x, y] => asI x fun i => asI y fun j => κ (.v (.int (if j > i then j else i)))
  | _ => False
def kMin2 : List Rv → (Rv → Prop) → Prop := fun rs κ => match rs with
  | [x, y] => asI x fun i => asI y fun j => κ (.v (.int (if j < i then j else i)))
  | _ => False
def kInt1 : List Rv → (Rv → Prop) → Prop := fun rs κ => match rs with
  | [.v (.int i)] => κ (.v (.int i))
  | [.v (.bl k)] => κ (.v (.int (if k then 1 else 0)))
  | _ => False
def kList : List Rv → (Rv → Prop) → Prop := fun rs κ => match rs with
  | [x] => asQ x fun ds => κ (.n ds)
  | _ => False
def kDivmod : List Rv → (Rv → Prop) → Prop := fun rs κ => match rs with
  | [x, y] => asI x fun i => asI y fun j => DivP i j ∧ κ (.v (.tup [.int (i / j), .int (i % j)]))
  | _ => False
section
variable {X : Cx}
theorem opa_len {K : PySem.W.Frag} : OpA K (fun xs H Q => ∃ p ys, xs = [.ref p] ∧ (SqL K H p ys ∨ SqT K H p ys) ∧ Q (.int ys.length) H) kLen := by
  intro H0 G Hs H rs vs Q κ s s0 sh h k q
  unfold kLen at k
  split at k
  · obtain ⟨v, rfl, h1⟩ := rvs1 h
    obtain ⟨ds, e, k1⟩ := asQ.of k
    obtain ⟨l, us, rfl, a, b⟩ := rvQ (K := K) s s0 h1 e
    exact ⟨l, us, rfl, a, by rw [← b.len]; exact q _ H G (.v (.int _)) (Ext.refl s) toI k1⟩
  · exact k.elim
theorem opa_list {K : PySem.W.Frag} : OpA K (fun xs H Q => ∃ p ys, xs = [.ref p] ∧ (SqL K H p ys ∨ SqT K H p ys) ∧ ∀ l, H l = none → Q (.ref l) (upd H l (.lst ys))) kList := by
  intro H0 G Hs H rs vs Q κ s s0 sh h k q
  unfold kList at k
  split at k
  · obtain ⟨v, rfl, h1⟩ := rvs1 h
    obtain ⟨ds, e, k1⟩ := asQ.of k
    obtain ⟨l, us, rfl, a, b⟩ := rvQ (K := K) s s0 h1 e
    exact ⟨l, us, rfl, a, fun p np => q _ _ _ (.n ds) (Ext.newH s np) ⟨p, us, rfl, upd_same, b, np, s.free np⟩ k1⟩
  · exact k.elim
theorem opa_abs : OpA K (fun xs H Q => ∃ i, xs = [.int i] ∧ Q (.int (if i < 0 then -i else i)) H) kAbs := by
  intro H0 G Hs H rs vs Q κ s s0 sh h k q
  unfold kAbs at k
  split at k
  · obtain ⟨v, rfl, h1⟩ := rvs1 h
    obtain ⟨i, rfl, k1⟩ := asI.of k
    exact ⟨i, by rw [rvI h1], q _ H G (.v (.int _)) (Ext.refl s) toI k1⟩
  · exact k.elim
theorem opa_max2 : OpA K (fun xs H Q => ∃ i j, xs = [.int i, .int j] ∧ Q (.int (if j > i then j else i)) H) kMax2 := by
  intro H0 G Hs H rs vs Q κ s s0 sh h k q
  unfold kMax2 at k
  split at k
  · obtain ⟨v, u, rfl, h1, h2⟩ := rvs2 h
    obtain ⟨i, rfl, k1⟩ := asI.of k
    obtain ⟨j, rfl, k2⟩ := asI.of k1
    exact ⟨i, j, by rw [rvI h1, rvI h2], q _ H G (.v (.int _)) (Ext.refl s) toI k2⟩
  · exact k.elim
theorem opa_min2 : OpA K (fun xs H Q => ∃ i j, xs = [.int i, .int j] ∧ Q (.int (if j < i then j else i)) H) kMin2 := by
  intro H0 G Hs H rs vs Q κ s s0 sh h k q
  unfold kMin2 at k
  split at k
  · obtain ⟨v, u, rfl, h1, h2⟩ := rvs2 h
    obtain ⟨i, rfl, k1⟩ := asI.of k
    obtain ⟨j, rfl, k2⟩ := asI.of k1
    exact ⟨i, j, by rw [rvI h1, rvI h2], q _ H G (.v (.int _)) (Ext.refl s) toI k2⟩
  · exact k.elim
theorem opa_int1 : OpA K (fun xs H Q => (∃ i, xs = [.int i] ∧ Q (.int i) H) ∨ ∃ k, xs = [.bl k] ∧ Q (.int (if k then 1 else 0)) H) kInt1 := by
  intro H0 G Hs H rs vs Q κ s s0 sh h k q
  unfold kInt1 at k
  split at k
  · rename_i i
    obtain ⟨v, rfl, h1⟩ := rvs1 h
    exact .inl ⟨i, by rw [rvI h1], q _ H G (.v (.int _)) (Ext.refl s) toI k⟩
  · rename_i b
    obtain ⟨v, rfl, h1⟩ := rvs1 h
    exact .inr ⟨b, by rw [rvB h1], q _ H G (.v (.int _)) (Ext.refl s) toI k⟩
  · exact k.elim
theorem opa_divmod : OpA K (fun xs H Q => ∃ i j, xs = [.int i, .int j] ∧ CDivP i j ∧ ∀ p, H p = none → Q (.ref p) (upd H p (.tup [.int (i / j), .int (i % j)]))) kDivmod := by
  intro H0 G Hs H rs vs Q κ s s0 sh h k q
  unfold kDivmod at k
  split at k
  · obtain ⟨v, u, rfl, h1, h2⟩ := rvs2 h
    obtain ⟨i, rfl, k1⟩ := asI.of k
    obtain ⟨j, rfl, k2, k3⟩ := asI.of k1
    refine ⟨i, j, by rw [rvI h1, rvI h2], ⟨k2.1, PyProof.noPylong_of_log2 k2.2⟩, fun p np => ?_⟩
    refine q _ _ _ (.v (.tup _)) (Ext.newG (o := .tup _) s np) ?_ k3
    show RdD K _ _ _
    unfold RdD
    exact ⟨p, _, rfl, upd_same, RdL.cons (by unfold RdD; rfl) (RdL.cons (by unfold RdD; rfl) RdL.nil)⟩
  · exact k.elim
variable {W : WX} {p pos : Pos} {e : Expr} {es : List Expr} {da : DA}
theorem me_len (hm : X.mg "len" = none) (ha : MA X W (e :: es) da) (hg : Gl X "len" := by rfl) (he : starEach (e :: es) X.env = (false, eval e X.env) :: starEach es X.env := by rfl) (hpl : (backTo pos (starEach es X.env)).any (·.1) = false := by rfl) : ME X W (.Call (.Name "len" p) (e :: es) [] pos) (dB kLen da) :=
  me_B call_len_seq opa_len PySem.boot_len hm ha hg (by decide) (by decide) he hpl
theorem me_abs (hm : X.mg "abs" = none) (ha : MA X W (e :: es) da) (hg : Gl X "abs" := by rfl) (he : starEach (e :: es) X.env = (false, eval e X.env) :: starEach es X.env := by rfl) (hpl : (backTo pos (starEach es X.env)).any (·.1) = false := by rfl) : ME X W (.Call (.Name "abs" p) (e :: es) [] pos) (dB kAbs da) :=
  me_B call_abs opa_abs (by decide +kernel) hm ha hg (by decide) (by decide) he hpl
theorem me_max2 (hc : X.calm = true) (hm : X.mg "max" = none) (ha : MA X W (e :: es) da) (hg : Gl X "max" := by rfl) (he : starEach (e :: es) X.env = (false, eval e X.env) :: starEach es X.env := by rfl) (hpl : (backTo pos (starEach es X.env)).any (·.1) = false := by rfl) : ME X W (.Call (.Name "max" p) (e :: es) [] pos) (dB kMax2 da) :=
  me_B (call_max2 hc) opa_max2 (by decide +kernel) hm ha hg (by decide) (by decide) he hpl
theorem me_min2 (hc : X.calm = true) (hm : X.mg "min" = none) (ha : MA X W (e :: es) da) (hg : Gl X "min" := by rfl) (he : starEach (e :: es) X.env = (false, eval e X.env) :: starEach es X.env := by rfl) (hpl : (backTo pos (starEach es X.env)).any (·.1) = false := by rfl) : ME X W (.Call (.Name "min" p) (e :: es) [] pos) (dB kMin2 da) :=
  me_B (call_min2 hc) opa_min2 (by decide +kernel) hm ha hg (by decide) (by decide) he hpl
theorem me_divmod (hm : X.mg "divmod" = none) (ha : MA X W (e :: es) da) (hg : Gl X "divmod" := by rfl) (he : starEach (e :: es) X.env = (false, eval e X.env) :: starEach es X.env := by rfl) (hpl : (backTo pos (starEach es X.env)).any (·.1) = false := by rfl) : ME X W (.Call (.Name "divmod" p) (e :: es) [] pos) (dB kDivmod da) :=
  me_B call_divmodW opa_divmod (by decide +kernel) hm ha hg (by decide) (by decide) he hpl
theorem me_toInt (hm : X.mg "int" = none) (ha : MA X W (e :: es) da) (hg : Gl X "int" := by rfl) (he : starEach (e :: es) X.env = (false, eval e X.env) :: starEach es X.env := by rfl) (hpl : (backTo pos (starEach es X.env)).any (·.1) = false := by rfl) : ME X W (.Call (.Name "int" p) (e :: es) [] pos) (dB kInt1 da) :=
  me_Ty call_int1 opa_int1 (by decide +kernel) hm ha hg (by decide) (by decide) he hpl
theorem me_list (hm : X.mg "list" = none) (ha : MA X W (e :: es) da) (hg : Gl X "list" := by rfl) (he : starEach (e :: es) X.env = (false, eval e X.env) :: starEach es X.env := by rfl) (hpl : (backTo pos (starEach es X.env)).any (·.1) = false := by rfl) : ME X W (.Call (.Name "list" p) (e :: es) [] pos) (dB kList da) :=
  me_Ty call_list_of opa_list (by decide +kernel) hm ha hg (by decide) (by decide) he hpl
end

/-! ### isinstance of built-in types -/
inductive TyN | int | bool | str | list | tuple | dict
def TyN.nm : TyN → String
  | .int => "int" | .bool => "bool" | .str => "str" | .list => "list" | .tuple => "tuple" | .dict => "dict"
def isTy : TyN → Dat → Bool
  | .int, .int _ => true
  | .int, .bl _ => true
  | .bool, .bl _ => true
  | .str, .str _ => true
  | .list, .lst _ => true
  | .tuple, .tup _ => true
  | .dict, .dic _ => true
  | _, _ => false
def tyD : Dat → String
  | .non => "NoneType" | .bl _ => "bool" | .int _ => "int" | .str _ => "str" | .tup _ => "tuple" | .lst _ => "list" | .dic _ => "dict"
inductive Tag | non | bl | int | str | tup | lst | dic
def Tag.of : Dat → Tag
  | .non => .non | .bl _ => .bl | .int _ => .int | .str _ => .str | .tup _ => .tup | .lst _ => .lst | .dic _ => .dic
def Tag.dat : Tag → Dat
  | .non => .non | .bl => .bl true | .int => .int 0 | .str => .str Str.empty | .tup => .tup [] | .lst => .lst [] | .dic => .dic []
theorem kit_tag (T : TyN) (t : Tag) : kitB (tyD t.dat) T.nm = some (isTy T t.dat) := by
  cases T <;> cases t <;> decide +kernel
theorem kit_isTy (T : TyN) (d : Dat) : kitB (tyD d) T.nm = some (isTy T d) := by
  have h := kit_tag T (Tag.of d)
  cases T <;> cases d <;> exact h
theorem rd_ty {K : PySem.W.Frag} {H : Hp} : ∀ (d : Dat) (v : V), RdD K H d v → TyX K H v (.type (tyD d))
  | .non, v, h => by unfold RdD at h; subst h; exact .base .non
  | .bl b, v, h => by unfold RdD at h; subst h; exact .base (.bl b)
  | .int b, v, h => by unfold RdD at h; subst h; exact .base (.int b)
  | .str b, v, h => by unfold RdD at h; subst h; exact .base (.str b)
  | .tup ds, v, h => by
    unfold RdD at h
    obtain ⟨a, vs, rfl, g, _⟩ := h
    exact .base (.tup g)
  | .lst ds, v, h => by
    unfold RdD at h
    obtain ⟨a, vs, rfl, (g | ⟨o, g⟩) | ⟨o, its, n, g, c, _⟩, _⟩ := h
    · exact .base (.lst g)
    · exact .base (.frz g)
    · exact .kList g c
  | .dic ds, v, h => by
    unfold RdD at h
    obtain ⟨a, rfl, g⟩ := h
    exact .base (.dK g)
def dIsi (T : TyN) (a : DE) : DE := fun ρ κ ε => a ρ (fun x => κ (.v (.bl (isTy T x.dat)))) ε
section
variable {X : Cx} {W : WX} {p p2 pos : Pos} {e : Expr} {d : DE}
theorem me_isi (T : TyN) {x : Str} (hv : bootBuiltins x = some (.type T.nm)) (hm : X.mg "isinstance" = none) (hx : X.mg x = none) (h : ME X W e d) (hg : Gl X "isinstance" := by rfl) (hgx : Gl X x := by rfl) (hn : x ≠ "__name__" := by decide) (hdb : (x == ("__debug__" : Str)) = false := by decide)
    (he : starEach [e, .Name x p2] X.env = (false, eval e X.env) :: starEach [.Name x p2] X.env := by rfl) (he2 : starEach [.Name x p2] X.env = (false, eval (.Name x p2) X.env) :: starEach [] X.env := by rfl) (hpl : (backTo pos (starEach [.Name x p2] X.env)).any (·.1) = false := by rfl) :
    ME X W (.Call (.Name "isinstance" p) [e, .Name x p2] [] pos) (dIsi T d) := by
  obtain ⟨t, pa, oa⟩ := h
  refine ⟨_, pe_callB call_isi hg hm PyProof.Rows.boot_isinstance (pa_cons pa (pa_cons (pe_bltn (v := .ty T.nm) hgx hx hv rfl hn hdb) pa_nil he2) he) (by decide) (by decide) he hpl, fun H0 G0 G ρ σ H Q κ ε R h hq hx => ?_⟩
  refine oa H0 G0 G ρ σ H _ _ ε R h (fun v H1 G1 r x1 h1 k1 => ?_) hx
  refine ⟨v, .ty T.nm, .type (tyD r.dat), .type T.nm, isTy T r.dat, rfl, .ty _, rd_ty _ _ (h1.read x1.s (R.on x1).ext.h), kit_ty (kit_isTy T r.dat), ?_⟩
  exact hq _ H1 G1 (.v (.bl _)) x1 toB k1
end
end DL
namespace DL
open PySem PySem.Spec PyProof.Rows L2
variable {K : PySem.W.Frag}

/-- a def of the text that may be called -/
structure Cal (P : Program) (w : World) (K : PySem.W.Frag) (mg : MG) (base : Heap) (j : Nat) (x : Str) (ps : List Str) (ms : List Bool) (S : Fsp) : Prop where
  ex : ∃ f fd, FnOk P w K mg base (L2.CX P w) j f fd ps (spOf K mg ms S) ∧ mg x = some (.ref f) ∧ PySem.W.keepIn K (.ref f) = true ∧ Binds K fd ps []
theorem Cal.mk' {P : Program} {w : World} {K : PySem.W.Frag} {mg : MG} {base : Heap} {j : Nat} {x : Str} {ps : List Str} {ms : List Bool} {S : Fsp} {f : Addr} {fd : FuncData} (F : FnOk P w K mg base (L2.CX P w) j f fd ps (spOf K mg ms S)) (h1 : mg x = some (.ref f)) (h2 : PySem.W.keepIn K (.ref f) = true) (h3 : Binds K fd ps []) : Cal P w K mg base j x ps ms S := ⟨f, fd, F, h1, h2, h3⟩
theorem Cn.blk {X : Cx} {W : WX} {k : Nat} {scope : Scope} {f : BlkT} (C : Cn X W k) : Cn (blkX X scope f) DL.W0 k := ⟨takes0, PassesOwn.never, C.hc, C.hr, C.nd⟩
section
variable {X : Cx} {W : WX} {e : Expr} {es : List Expr} {da : DA} {x : Str} {p pos : Pos} {ps : List Str} {ms : List Bool} {S : Fsp} {k j : Nat}
theorem me_callC (C : Cn X W k) (F : Cal X.prog X.w X.K X.mg X.base j x ps ms S) (ha : MA X W (e :: es) da) (hj : j ≤ k := by decide) (hg : Gl X x := by rfl)
    (hdb : (x == ("__debug__" : Str)) = false := by decide) (he : starEach (e :: es) X.env = (false, eval e X.env) :: starEach es X.env := by rfl) (hpl : (backTo pos (starEach es X.env)).any (·.1) = false := by rfl) :
    ME X W (.Call (.Name x p) (e :: es) [] pos) (dCall ms S da) := by
  obtain ⟨f, fd, F, h1, h2, h3⟩ := F
  exact me_call C F h1 h2 h3 ha hj hg hdb he hpl
end

/-! ### range(a, b, c) -/
theorem itOk_rngC {lo c : Int} {n : Nat} {B G : Hp} : ItOk K (Itc lo c n) ((List.range n).map fun (i : Nat) => Dat.int (lo + (i : Int) * c)) B G := by
  refine ⟨fun i H b g hi => (show i < n by simpa using hi), fun i H b g hi => (show n ≤ i by simpa using hi), fun i H x H' Gc d b g gc hd hy => ?_⟩
  obtain ⟨rfl, rfl⟩ := hy
  refine ⟨Gc, Ext.refl gc, ?_⟩
  rw [List.getElem?_map] at hd
  by_cases hi : i < n
  · rw [List.getElem?_range hi] at hd
    cases hd
    unfold RdD; rfl
  · rw [List.getElem?_eq_none (by simpa using hi)] at hd
    exact nomatch hd
def rngDC (lo c : Int) (n : Nat) : List Dat := (List.range n).map fun (i : Nat) => Dat.int (lo + (i : Int) * c)
def iRng3 (a b c : DE) : DI := fun ρ κ ε => a ρ (fun x => b ρ (fun y => c ρ (fun z => asI x fun i => asI y fun j => asI z fun k => ∃ n, RgC i j k n ∧ κ (rngDC i k n)) ε) ε) ε
section
variable {X : Cx} {W : WX} {tg a b d : Expr} {da db dd : DE} {c : Bool}
theorem mi_rng3 {p pos : Pos} (hm : X.mg "range" = none) (ha : ME X W a da) (hb : ME X W b db) (hd : ME X W d dd) (hg : Gl X "range" := by rfl) (hs : starEach [a, b, d] X.env = (false, eval a X.env) :: starEach [b, d] X.env := by rfl) (hpl : (backTo pos (starEach [b, d] X.env)).any (·.1) = false := by rfl)
    (hs2 : starEach [b, d] X.env = (false, eval b X.env) :: starEach [d] X.env := by rfl) (hs3 : starEach [d] X.env = (false, eval d X.env) :: starEach [] X.env := by rfl) : MI X W c tg (.Call (.Name "range" p) [a, b, d] [] pos) (iRng3 da db dd) := by
  obtain ⟨t, pa, oa⟩ := ha
  obtain ⟨u, pb, ob⟩ := hb
  obtain ⟨w, pd, od⟩ := hd
  refine ⟨_, pi_range3 hg hm (pa_cons pa (pa_cons pb (pa_cons pd pa_nil hs3) hs2) hs) hs hpl, fun H0 G0 G ρ σ H R κ ε RR h hq hx => ?_⟩
  refine oa H0 G0 G ρ σ H _ _ ε RR h (fun v H1 G1 r x1 hr k => ?_) hx
  refine ob H0 G0 G1 ρ σ H1 _ _ ε (RR.on x1) k (fun w H2 G2 z x2 hz k2 => ?_) (hx.on x1)
  refine od H0 G0 G2 ρ σ H2 _ _ ε ((RR.on x1).on x2) k2 (fun w3 H3 G3 z3 x3 hz3 k3 => ?_) ((hx.on x1).on x2)
  obtain ⟨i, rfl, k31⟩ := asI.of k3
  obtain ⟨j, rfl, k32⟩ := asI.of k31
  obtain ⟨l, rfl, n, k4, k5⟩ := asI.of k32
  rw [rvI hr, rvI hz, rvI hz3]
  exact ⟨i, j, l, n, rfl, k4, hq _ H3 G3 _ ((x1.trans x2).trans x3) itOk_rngC k5⟩
end
/-- an upward range's turns -/
def rN (i j c : Int) : Nat := if i < j then ((j - i - 1) / c).toNat + 1 else 0
theorem rgC_up {i j c : Int} (h1 : -(2 ^ 61) ≤ i) (h2 : i < 2 ^ 61) (h3 : -(2 ^ 61) ≤ j) (h4 : j < 2 ^ 61) (hc : 0 < c) (hc2 : c < 1000000) : RgC i j c (rN i j c) := by
  have hs : Builtin.Range.rangeSize i j c = (rN i j c : Int) := by
    unfold Builtin.Range.rangeSize rN
    rw [if_pos hc]
    by_cases h : i < j
    · rw [if_pos h, if_pos h]
      have : 0 ≤ (j - i - 1) / c := Int.ediv_nonneg (by omega) (by omega)
      omega
    · rw [if_neg h, if_neg h]; rfl
  refine ⟨by omega, by omega, ?_, hs⟩
  unfold Builtin.Range.small
  rw [hs]
  simp only [Builtin.Range.rangeFitsLong, Bool.and_eq_true, Bool.or_eq_true, decide_eq_true_eq, beq_iff_eq, if_pos hc]
  have hr : 0 ≤ (rN i j c : Int) ∧ (rN i j c : Int) < 2 ^ 62 := by
    unfold rN
    split
    · rename_i h
      have a1 : (j - i - 1) / c ≤ j - i - 1 := Int.ediv_le_self _ (by omega)
      have a2 : 0 ≤ (j - i - 1) / c := Int.ediv_nonneg (by omega) (by omega)
      omega
    · omega
  refine ⟨⟨⟨⟨by omega, by omega⟩, by omega⟩, by omega⟩, .inr ⟨by omega, by omega⟩⟩
end DL
namespace DL
open PySem PySem.Spec PyProof.Rows L2
variable {K : PySem.W.Frag}

/-! ### exceptions: the classes of the text stand flat under StakeError -/
def exB (a b : Str) : Bool := a == b || b == ("StakeError" : Str)
abbrev veB : List Value := [.type "ValueError", .type "Exception", .type "BaseException", .type "object"]
structure Exn (K : PySem.W.Frag) (C : Addr) : Prop where
  x : PySem.W.excIn K C veB "ValueError.__new__" = true
  k : PySem.W.keepIn K (.ref C) = true
  b : PySem.W.subIn K (.ref C) (.type "BaseException") = some true
  t : PySem.W.typeIn K (.ref C) = some (.type "type")
/-- a class that may be raised -/
def Xr (K : PySem.W.Frag) (mg : MG) (x : Str) : Prop := ∃ C, mg x = some (.ref C) ∧ Exn K C
/-- what an except clause says of a class -/
def Xm (K : PySem.W.Frag) (mg : MG) (a b : Str) (r : Bool) : Prop := ∃ C D, mg a = some (.ref C) ∧ mg b = some (.ref D) ∧ PySem.W.exmOne K (.ref C) (.ref D) = some r
/-- what isinstance says of a caught one -/
def Xi (K : PySem.W.Frag) (mg : MG) (a b : Str) (r : Bool) : Prop := ∃ C, mg a = some (.ref C) ∧ ExcC K C ∧ ((∃ D, mg b = some (.ref D) ∧ PySem.W.keepIn K (.ref D) = true ∧ PySem.W.kitOne K (.ref C) (.ref D) = some r) ∨
  (mg b = none ∧ bootBuiltins b = some (.type "ValueError") ∧ b = ("ValueError" : Str) ∧ PySem.W.kitOne K (.ref C) (.type "ValueError") = some r))
/-- the facts at hand: rows of names -/
structure Xs (K : PySem.W.Frag) (mg : MG) (ms is : List (Str × Str × Bool)) : Prop where
  m : ∀ p ∈ ms, Xm K mg p.1 p.2.1 p.2.2
  i : ∀ p ∈ is, Xi K mg p.1 p.2.1 p.2.2
def look (l : List (Str × Str × Bool)) (a b : Str) : Option Bool := match l with
  | [] => none
  | p :: r => if (p.1 == a && p.2.1 == b) = true then some p.2.2 else look r a b
theorem look_mem {a b : Str} {r : Bool} : ∀ {l : List (Str × Str × Bool)}, look l a b = some r → (a, b, r) ∈ l
  | [], h => nomatch h
  | p :: l, h => by
    unfold look at h
    split at h
    · rename_i e
      rw [Bool.and_eq_true, beq_iff_eq, beq_iff_eq] at e
      injection h with h
      obtain ⟨p1, p2, p3⟩ := p
      obtain ⟨e1, e2⟩ := e
      dsimp only at e1 e2 h
      subst e1 e2 h
      exact List.mem_cons_self
    · exact List.mem_cons_of_mem _ (look_mem h)
def sRaise (nm : Str) : DS := fun κ ρ => κ.ex nm ρ
section
variable {X : Cx} {W : WX}
theorem ms_raise {x m : Str} {j : Nat} {p p2 p3 pos : Pos} (hc : X.calm = true) (tk : Takes X W) (hx : Xr X.K X.mg x) (hg : Gl X x := by rfl) (hdb : (x == ("__debug__" : Str)) = false := by decide) : MS X W (.Raise (some (.Call (.Name x p) [.Constant (.str m) j p2] [] p3)) none pos) (sRaise x) := by
  obtain ⟨C, hm, hC⟩ := hx
  exact ⟨_, ps_raise hc tk (pmk_own PySem.F.excBase_ValueError hC.x hm hC.k (raises_own hC.b hC.t) hg hdb), fun H0 G0 G ρ σ H D κ R h E => E.ex x _ ρ σ H G R hm h⟩
/-- one reading for all the contexts of a try's body -/
theorem try_b {W0 : WX → Prop} {body : List Stmt} {δ : DS} (hb : ∀ (W : WX) (pn : List (Addr × Obj)) (xe : Value → Shared → Prop), Takes (X.tr pn xe) W → PassesOwn (model X.prog X.w) X.A X.env xe → MSs (X.tr pn xe) W body δ) :
    ∃ tb : WX → TS, (∀ (W : WX) (pn : List (Addr × Obj)) (xe : Value → Shared → Prop), Takes (X.tr pn xe) W → PassesOwn (model X.prog X.w) X.A X.env xe → PSs (X.tr pn xe) body (tb W)) ∧ ∀ W, SOk X.K X.mg W (tb W) δ := by
  refine ⟨fun W D σ H => ∀ pn xe t, Takes (X.tr pn xe) W → PassesOwn (model X.prog X.w) X.A X.env xe → PSs (X.tr pn xe) body t → SOk X.K X.mg W t δ → t D σ H, fun W pn xe tk po => ?_, fun W H0 G0 G ρ σ H D κ R h E pn xe t _ _ _ ok => ok H0 G0 G ρ σ H D κ R h E⟩
  obtain ⟨t, pt, ot⟩ := hb W pn xe tk po
  exact ⟨fun pins s σ H D I q => pt.run pins s σ H D I (q pn xe t tk po pt ot)⟩
end
/-- try: body except x: suite -/
def sTry (ms : List (Str × Str × Bool)) (x : Str) (b s : DS) : DS := fun κ ρ => b { κ with ex := fun nm ρ' => onS (look ms nm x) fun r => if r = true then s κ ρ' else κ.ex nm ρ' } ρ
/-- try: body except x as n: suite -/
def sTryAs (ms : List (Str × Str × Bool)) (x : Str) (i : Nat) (b : DS) (s : Addr → Str → DS) : DS := fun κ ρ => b { κ with ex := fun nm ρ' => onS (look ms nm x) fun r => if r = true then ∀ a, s a nm { κ with nx := fun ρ2 => κ.nx (ρ2.set i .un), bk := fun ρ2 => κ.bk (ρ2.set i .un), ct := fun ρ2 => κ.ct (ρ2.set i .un), ex := fun _ _ => False } (ρ'.set i (.adr a)) else κ.ex nm ρ' } ρ
section
variable {X : Cx} {W : WX} {x n : Str} {body suite : List Stmt} {b₀ : Stmt} {np pos pos' : Pos} {db : DS} {ms is : List (Str × Str × Bool)}
theorem EndsOk.w0 {mg : MG} {W : WX} {H0 G0 : Hp} {D : Ends} {κ : DEnds} (E : EndsOk K mg W H0 G0 D κ) : EndsOk K mg DL.W0 H0 G0 D { κ with ex := fun _ _ => False } :=
  ⟨E.nx, E.bk, E.ct, E.rt, fun _ _ _ _ _ _ _ _ k => k⟩
theorem ms_try {ds : DS} (hs : X.stack = X.env :: X.outer) (hf : X.env.frame = some X.env.locals) (tk : Takes X W) (XX : Xs X.K X.mg ms is) (hx : ∃ C, X.mg x = some (.ref C))
    (hb : ∀ (W : WX) (pn : List (Addr × Obj)) (xe : Value → Shared → Prop), Takes (X.tr pn xe) W → PassesOwn (model X.prog X.w) X.A X.env xe → MSs (X.tr pn xe) W body db)
    (hsu : ∀ (a : Addr) (oe : Obj) (pn : List (Addr × Obj)), MSs (X.suite a ((a, oe) :: pn)) DL.W0 (b₀ :: suite) ds)
    (hg : Gl X x := by rfl) (hdb : (x == ("__debug__" : Str)) = false := by decide) :
    MS X W (.Try body [.ExceptHandler (some (.Name x np)) none (b₀ :: suite) pos'] [] [] pos) (sTry ms x db (fun κ ρ => ds { κ with ex := fun _ _ => False } ρ)) := by
  obtain ⟨C, hx⟩ := hx
  obtain ⟨tb, pb, ob⟩ := try_b (W0 := fun _ => True) hb
  refine ⟨_, ps_try_only (tb := tb) (ts := fun a cls d D σ H => ∀ oe pn t, PSs (X.suite a ((a, oe) :: pn)) (b₀ :: suite) t → SOk X.K X.mg DL.W0 t ds → t D σ H) (Wout := W) hs hf ⟨hg, hdb, .inl hx⟩ tk pb (fun a oe cls d pn hz hfl => ?_), fun H0 G0 G ρ σ H D κ R h E => ?_⟩
  · obtain ⟨t, pt, ot⟩ := hsu a oe pn
    exact ⟨fun pins s σ H D I q => pt.run pins s σ H D I (q oe pn t pt ot)⟩
  · refine ob _ H0 G0 G ρ σ H D _ R h ⟨E.nx, E.bk, E.ct, E.rt, fun nm cls ρ' σ' H' G' R' hm k => ?_⟩
    obtain ⟨r, hr, k⟩ := onS.of k
    obtain ⟨C1, D1, e1, e2, e3⟩ := XX.m _ (look_mem hr)
    have e1 : X.mg nm = some (.ref C1) := e1
    have e2 : X.mg x = some (.ref D1) := e2
    rw [hm] at e1
    rw [hx] at e2
    cases e1
    cases e2
    refine ⟨r, e3, fun hr1 a na oe pn t pt ot => ?_, fun hr0 => ?_⟩
    · rw [if_pos hr1] at k
      exact ot H0 G0 G' ρ' σ' H' D _ R' k E.w0
    · rw [if_neg (by rw [hr0]; exact Bool.false_ne_true)] at k
      exact E.ex nm _ ρ' σ' H' G' R' hm k
theorem Rel.adr {H0 G0 G H : Hp} {ρ : List Sl} {σ : L2.St} (R : Rel K H0 G0 G ρ σ H) (i : Nat) (a : Addr) : Rel K H0 G0 G (ρ.set i (.adr a)) (σ.set i (some (.ref a))) H := by
  refine ⟨R.ext, by rw [List.length_set, List.length_set]; exact R.len, fun j t ht => ?_, fun j k ds es l hj hk lj lk => ?_⟩
  · by_cases hij : i = j
    · subst hij
      by_cases hi : i < ρ.length
      · rw [List.getElem?_set_self hi] at ht
        cases ht
        show (σ.set i (some (V.ref a)))[i]? = _
        rw [List.getElem?_set_self (by rw [← R.len]; exact hi)]
      · rw [List.getElem?_eq_none (by rw [List.length_set]; omega)] at ht
        exact nomatch ht
    · rw [List.getElem?_set_ne hij] at ht ⊢
      exact R.sl j t ht
  · have key : ∀ (j : Nat) (ds : List Dat), (ρ.set i (.adr a))[j]? = some (.ow ds) → i ≠ j := fun j ds h e => by
      subst e
      by_cases hi : i < ρ.length
      · rw [List.getElem?_set_self hi] at h; exact nomatch h
      · rw [List.getElem?_eq_none (by rw [List.length_set]; omega)] at h; exact nomatch h
    have a1 := key j ds hj
    have a2 := key k es hk
    rw [List.getElem?_set_ne a1] at hj lj
    rw [List.getElem?_set_ne a2] at hk lk
    exact R.inj j k ds es l hj hk lj lk
theorem Rel.gone {H0 G0 G H : Hp} {ρ : List Sl} {σ : L2.St} (R : Rel K H0 G0 G ρ σ H) (i : Nat) (v : Option V) : Rel K H0 G0 G (ρ.set i .un) (σ.set i v) H := by
  refine R.weak (by rw [List.length_set]) (by rw [List.length_set]) fun j s h => ?_
  by_cases hij : i = j
  · subst hij
    by_cases hi : i < ρ.length
    · rw [List.getElem?_set_self hi] at h; cases h; exact .inl rfl
    · rw [List.getElem?_eq_none (by rw [List.length_set]; omega)] at h; exact nomatch h
  · rw [List.getElem?_set_ne hij] at h ⊢
    exact .inr ⟨h, rfl⟩
theorem ms_tryAs {ds : Addr → Str → DS} (i : Nat) (hs : X.stack = X.env :: X.outer) (hf : X.env.frame = some X.env.locals) (hN : X.N.Nodup) (tk : Takes X W) (XX : Xs X.K X.mg ms is) (hx : ∃ C, X.mg x = some (.ref C))
    (hb : ∀ (W : WX) (pn : List (Addr × Obj)) (xe : Value → Shared → Prop), Takes (X.tr pn xe) W → PassesOwn (model X.prog X.w) X.A X.env xe → MSs (X.tr pn xe) W body db)
    (hsu : ∀ (a : Addr) (oe : Obj) (cls : Value) (nm : Str) (pn : List (Addr × Obj)), Zc cls none oe → (∃ vs, oe.data = .fields vs) → X.mg nm = some cls → MSs (X.suite a ((a, oe) :: pn)) DL.W0 (b₀ :: suite) (ds a nm))
    (hi : X.N[i]? = some n := by rfl) (hln : X.env.kindOf n = some .local := by rfl) (hg : Gl X x := by rfl) (hdb : (x == ("__debug__" : Str)) = false := by decide) :
    MS X W (.Try body [.ExceptHandler (some (.Name x np)) (some n) (b₀ :: suite) pos'] [] [] pos) (sTryAs ms x i db ds) := by
  obtain ⟨C, hx⟩ := hx
  obtain ⟨tb, pb, ob⟩ := try_b (W0 := fun _ => True) hb
  refine ⟨_, ps_try_as (tb := tb) (i := i) (ts := fun a cls d D σ H => ∃ nm, d = none ∧ X.mg nm = some cls ∧ ∀ oe pn t, Zc cls none oe → (∃ vs, oe.data = .fields vs) → PSs (X.suite a ((a, oe) :: pn)) (b₀ :: suite) t → SOk X.K X.mg DL.W0 t (ds a nm) → t D σ H) (Wout := W) hs hf hN hi hln ⟨hg, hdb, .inl hx⟩ tk pb (fun a oe cls d pn hz hfl => ?_), fun H0 G0 G ρ σ H D κ R h E => ?_⟩
  · refine ⟨fun pins s σ H D I q => ?_⟩
    obtain ⟨nm, rfl, hm, q⟩ := q
    obtain ⟨t, pt, ot⟩ := hsu a oe cls nm pn hz hfl hm
    exact pt.run pins s σ H D I (q oe pn t hz hfl pt ot)
  · refine ob _ H0 G0 G ρ σ H D _ R h ⟨E.nx, E.bk, E.ct, E.rt, fun nm cls ρ' σ' H' G' R' hm k => ?_⟩
    obtain ⟨r, hr, k⟩ := onS.of k
    obtain ⟨C1, D1, e1, e2, e3⟩ := XX.m _ (look_mem hr)
    have e1 : X.mg nm = some (.ref C1) := e1
    have e2 : X.mg x = some (.ref D1) := e2
    rw [hm] at e1
    rw [hx] at e2
    cases e1
    cases e2
    refine ⟨r, e3, fun hr1 a na => ⟨nm, rfl, hm, fun oe pn t hz hfl pt ot => ?_⟩, fun hr0 => ?_⟩
    · rw [if_pos hr1] at k
      refine ot H0 G0 G' _ _ H' _ _ (R'.adr i a) (k a) ⟨fun ρ2 σ2 H2 G2 R2 k2 => ?_, fun ρ2 σ2 H2 G2 R2 k2 => ?_, fun ρ2 σ2 H2 G2 R2 k2 => ?_, E.rt, fun _ _ _ _ _ _ _ _ k => k⟩
      · exact E.nx _ _ H2 G2 (R2.gone i none) k2
      · exact E.bk _ _ H2 G2 (R2.gone i none) k2
      · exact E.ct _ _ H2 G2 (R2.gone i none) k2
    · rw [if_neg (by rw [hr0]; exact Bool.false_ne_true)] at k
      exact E.ex nm _ ρ' σ' H' G' R' hm k
end
/-- isinstance(n, y), n the caught one -/
def dIsx (is : List (Str × Str × Bool)) (a : Addr) (nm : Str) (i : Nat) (y : Str) : DE := fun ρ κ _ => ρ[i]? = some (.adr a) ∧ onS (look is nm y) fun r => κ (.v (.bl r))
section
variable {X : Cx} {W : WX} {n y : Str} {ms is : List (Str × Str × Bool)} {p p1 p2 pos : Pos}
theorem me_isx {a : Addr} {oe : Obj} {cls : Value} {nm : Str} {pn : List (Addr × Obj)} (i : Nat) (XX : Xs X.K X.mg ms is) (hz : Zc cls none oe) (hfl : ∃ vs, oe.data = .fields vs) (hm : X.mg nm = some cls) (hI : X.mg "isinstance" = none)
    (hN : X.N[i]? = some n := by rfl) (hv : Vis X.env.scope n := by first | exact Or.inl rfl | exact Or.inr (Or.inl rfl) | exact Or.inr (Or.inr rfl)) (hd : (n == ("__debug__" : Str)) = false := by decide) (hcd : (n == ("__classdict__" : Str)) = false := by decide)
    (hg : Gl X "isinstance" := by rfl) (hgy : Gl X y := by rfl) (hny : y ≠ "__name__" := by decide) (hdy : (y == ("__debug__" : Str)) = false := by decide)
    (he : starEach [.Name n p1, .Name y p2] X.env = (false, eval (.Name n p1) X.env) :: starEach [.Name y p2] X.env := by rfl) (he2 : starEach [.Name y p2] X.env = (false, eval (.Name y p2) X.env) :: starEach [] X.env := by rfl) (hpl : (backTo pos (starEach [.Name y p2] X.env)).any (·.1) = false := by rfl) :
    ME (X.suite a ((a, oe) :: pn)) W (.Call (.Name "isinstance" p) [.Name n p1, .Name y p2] [] pos) (dIsx is a nm i y) := by
  by_cases hex : ∃ r, look is nm y = some r
  · obtain ⟨r, hr⟩ := hex
    obtain ⟨C, e1, xc, hy⟩ := XX.i _ (look_mem hr)
    have e1 : X.mg nm = some (.ref C) := e1
    rw [hm] at e1
    cases e1
    have go : ∀ {vy : V} {cv : Value}, PE (X.suite a ((a, oe) :: pn)) (.Name y p2) (tC vy) → (∀ u, RelV vy u → u = cv) → PySem.W.kitOne X.K (.ref C) cv = some r → ME (X.suite a ((a, oe) :: pn)) W (.Call (.Name "isinstance" p) [.Name n p1, .Name y p2] [] pos) (dIsx is a nm i y) := fun {vy cv} py hcv hk => by
      refine ⟨_, pe_callB (X := X.suite a ((a, oe) :: pn)) (call_isE xc hz hfl) hg hI PyProof.Rows.boot_isinstance (pa_cons (pe_var (X := X.suite a ((a, oe) :: pn)) hN hv hd hcd) (pa_cons py pa_nil he2) he) (by decide) (by decide) he hpl, fun H0 G0 G ρ σ H Q κ ε R h hq hx => ?_⟩
      obtain ⟨h1, h2⟩ := h
      obtain ⟨r', hr', h2⟩ := onS.of h2
      rw [hr] at hr'
      cases hr'
      exact ⟨.ref a, R.sl _ _ h1, vy, cv, r, rfl, hcv, hk, hq _ H G (.v (.bl _)) (Ext.refl R.ext.s) toB h2⟩
    rcases hy with ⟨D, e2, k2, h2⟩ | ⟨e2, bt, ey, h2⟩
    · exact go (vy := .ref D) (pe_glob (X := X.suite a ((a, oe) :: pn)) hgy e2 rfl hdy) (fun u h => h) h2
    · exact go (vy := .ty "ValueError") (pe_bltn (X := X.suite a ((a, oe) :: pn)) (v := .ty "ValueError") hgy e2 bt rfl hny hdy) (fun u h => h) h2
  · refine ⟨fun _ _ _ => False, ⟨fun pins s σ H Q I q => q.elim⟩, fun H0 G0 G ρ σ H Q κ ε R h hq hx => ?_⟩
    obtain ⟨_, h2⟩ := h
    obtain ⟨r, hr, _⟩ := onS.of h2
    exact absurd ⟨r, hr⟩ hex
end
end DL
namespace DL
open PySem PySem.Spec PyProof.Rows L2
variable {K : PySem.W.Frag}

/-! ### sum, min, max of a list of ints -/
def intsD : List Dat → Option (List Int)
  | [] => some []
  | .int i :: ds => (intsD ds).map (i :: ·)
  | _ => none
theorem intsD_map : ∀ ns : List Int, intsD (ns.map Dat.int) = some ns
  | [] => rfl
  | n :: ns => by
    show (intsD (ns.map Dat.int)).map (n :: ·) = _
    rw [intsD_map ns]; rfl
theorem intsD_of : ∀ {ds : List Dat} {ns : List Int}, intsD ds = some ns → ds = ns.map Dat.int
  | [], ns, h => by cases h; rfl
  | d :: ds, ns, h => by
    cases d with
    | int i =>
      have h : (intsD ds).map (i :: ·) = some ns := h
      obtain ⟨r, e, rfl⟩ := Option.map_eq_some_iff.mp h
      rw [intsD_of e]; rfl
    | _ => exact nomatch h
theorem RdL.toInts {G : Hp} : ∀ {ns : List Int} {vs : List V}, RdL K G (ns.map Dat.int) vs → vs = ns.map V.int
  | [], vs, h => by unfold List.map RdL at h; exact h
  | n :: ns, vs, h => by
    unfold List.map RdL at h
    obtain ⟨v, r, rfl, h1, h2⟩ := h
    unfold RdD at h1
    rw [h1, RdL.toInts h2]; rfl
def kSum : List Rv → (Rv → Prop) → Prop := fun rs κ => match rs with
  | [x] => asL x fun ds => onS (intsD ds) fun ns => κ (.v (.int ns.sum))
  | _ => False
def kMax1 : List Rv → (Rv → Prop) → Prop := fun rs κ => match rs with
  | [x] => asL x fun ds => onS (intsD ds) fun ns => onS ns.max? fun m => κ (.v (.int m))
  | _ => False
def kMin1 : List Rv → (Rv → Prop) → Prop := fun rs κ => match rs with
  | [x] => asL x fun ds => onS (intsD ds) fun ns => onS ns.min? fun m => κ (.v (.int m))
  | _ => False
theorem intsQ {H0 G Hs H : Hp} {x : Rv} {v : V} {ds : List Dat} {ns : List Int} (s : Same G H) (s0 : Same H0 H) (h : RvR K H0 G Hs H x v) (e : x.dat = .lst ds) (e2 : intsD ds = some ns) : ∃ l, v = .ref l ∧ SqL K H l (ns.map V.int) := by
  rw [intsD_of e2] at e
  obtain ⟨l, vs, a, b, c⟩ := h.lst s s0 e
  rw [c.toInts] at b
  exact ⟨l, a, b⟩
section
variable {X : Cx} {W : WX} {p pos : Pos} {e : Expr} {es : List Expr} {da : DA}
theorem opa_sum : OpA K (rSum K) kSum := by
  intro H0 G Hs H rs vs Q κ s s0 sh h k q
  unfold kSum at k
  split at k
  · obtain ⟨v, rfl, h1⟩ := rvs1 h
    obtain ⟨ds, e, k1⟩ := asL.of k
    obtain ⟨ns, e2, k2⟩ := onS.of k1
    obtain ⟨l, rfl, b⟩ := intsQ s s0 h1 e e2
    exact ⟨l, ns, rfl, b, q _ H G (.v (.int _)) (Ext.refl s) toI k2⟩
  · exact k.elim
theorem opa_max1 : OpA K (rMax K) kMax1 := by
  intro H0 G Hs H rs vs Q κ s s0 sh h k q
  unfold kMax1 at k
  split at k
  · obtain ⟨v, rfl, h1⟩ := rvs1 h
    obtain ⟨ds, e, k1⟩ := asL.of k
    obtain ⟨ns, e2, k2⟩ := onS.of k1
    obtain ⟨m, e3, k3⟩ := onS.of k2
    obtain ⟨l, rfl, b⟩ := intsQ s s0 h1 e e2
    obtain ⟨a1, a2⟩ := List.max?_eq_some_iff.mp e3
    refine ⟨l, ns, rfl, b, List.length_pos_of_mem a1, fun m' h1 h2 => ?_⟩
    have em : m' = m := Int.le_antisymm (a2 m' h1) (h2 m a1)
    subst em
    exact q _ H G (.v (.int _)) (Ext.refl s) toI k3
  · exact k.elim
theorem opa_min1 : OpA K (rMin K) kMin1 := by
  intro H0 G Hs H rs vs Q κ s s0 sh h k q
  unfold kMin1 at k
  split at k
  · obtain ⟨v, rfl, h1⟩ := rvs1 h
    obtain ⟨ds, e, k1⟩ := asL.of k
    obtain ⟨ns, e2, k2⟩ := onS.of k1
    obtain ⟨m, e3, k3⟩ := onS.of k2
    obtain ⟨l, rfl, b⟩ := intsQ s s0 h1 e e2
    obtain ⟨a1, a2⟩ := List.min?_eq_some_iff.mp e3
    refine ⟨l, ns, rfl, b, List.length_pos_of_mem a1, fun m' h1 h2 => ?_⟩
    have em : m' = m := Int.le_antisymm (h2 m a1) (a2 m' h1)
    subst em
    exact q _ H G (.v (.int _)) (Ext.refl s) toI k3
  · exact k.elim
theorem me_sum (hc : X.calm = true) (hm : X.mg "sum" = none) (ha : MA X W (e :: es) da) (hg : Gl X "sum" := by rfl) (he : starEach (e :: es) X.env = (false, eval e X.env) :: starEach es X.env := by rfl) (hpl : (backTo pos (starEach es X.env)).any (·.1) = false := by rfl) : ME X W (.Call (.Name "sum" p) (e :: es) [] pos) (dB kSum da) :=
  me_B (cr_sum hc) opa_sum (by decide +kernel) hm ha hg (by decide) (by decide) he hpl
theorem me_max1 (hc : X.calm = true) (hm : X.mg "max" = none) (ha : MA X W (e :: es) da) (hg : Gl X "max" := by rfl) (he : starEach (e :: es) X.env = (false, eval e X.env) :: starEach es X.env := by rfl) (hpl : (backTo pos (starEach es X.env)).any (·.1) = false := by rfl) : ME X W (.Call (.Name "max" p) (e :: es) [] pos) (dB kMax1 da) :=
  me_B (cr_max hc) opa_max1 (by decide +kernel) hm ha hg (by decide) (by decide) he hpl
theorem me_min1 (hc : X.calm = true) (hm : X.mg "min" = none) (ha : MA X W (e :: es) da) (hg : Gl X "min" := by rfl) (he : starEach (e :: es) X.env = (false, eval e X.env) :: starEach es X.env := by rfl) (hpl : (backTo pos (starEach es X.env)).any (·.1) = false := by rfl) : ME X W (.Call (.Name "min" p) (e :: es) [] pos) (dB kMin1 da) :=
  me_B (cr_min hc) opa_min1 (by decide +kernel) hm ha hg (by decide) (by decide) he hpl
end

/-! ### in; is None; is True -/
def kIn (neg : Bool) : Rv → Rv → (Rv → Prop) → (Str → Prop) → Prop := fun x y κ _ => asL y fun ds => (shp 64 x.dat = true ∧ shp 64 (.lst ds) = true) ∧ κ (.v (.bl (if neg = true then !(ds.any fun z => eqD z x.dat) else (ds.any fun z => eqD z x.dat))))
theorem any_py {d : Dat} (h : plainD d = true) : ∀ ds : List Dat, plainDL ds = true → (toPyL ds).any (fun z => PyData.eqv z (toPy d)) = ds.any fun z => eqD z d
  | [], _ => by unfold toPyL; rfl
  | x :: xs, p => by
    unfold plainDL at p; rw [Bool.and_eq_true] at p
    unfold toPyL
    rw [List.any_cons, List.any_cons, any_py h xs p.2, eqD_py x d p.1 h]
theorem inD_go {x y : Rv} {v u : V} {ds : List Dat} {H0 G Hs H : Hp} (s : Same G H) (s0 : Same H0 H) (rx : RvR K H0 G Hs H x v) (ry : RvR K H0 G Hs H y u) (e : y.dat = .lst ds) (p1 : shp 64 x.dat = true) (p2 : shp 64 (.lst ds) = true) :
    ∃ d es, Dp K H v d ∧ Dp K H u (.list es) ∧ SeqAt.shaped d = true ∧ SeqAt.shaped (.list es) = true ∧ (es.any fun z => PyData.eqv z d) = ds.any fun z => eqD z x.dat := by
  obtain ⟨q1, q3⟩ := shp_shaped p1
  obtain ⟨q2, q4⟩ := shp_shaped p2
  have ry := ry.read s s0
  rw [e] at ry
  have q2' : plainDL ds = true := by unfold plainD at q2; exact q2
  have et : toPy (.lst ds) = .list (toPyL ds) := by unfold toPy; rfl
  rw [et] at q4
  refine ⟨_, toPyL ds, RdD.dp _ _ q1 (rx.read s s0), ?_, q3, q4, any_py q1 ds q2'⟩
  have := RdD.dp _ _ q2 ry
  rw [et] at this
  exact this
theorem op2_in : Op2 K (rInD K) (kIn false) := by
  intro H0 G Hs H x y v u Q κ ε s s0 sh rx ry h q
  obtain ⟨ds, e, ⟨p1, p2⟩, hk⟩ := asL.of h
  obtain ⟨d, es, a1, a2, a3, a4, a5⟩ := inD_go s s0 rx ry e p1 p2
  refine ⟨d, es, a1, a2, a3, a4, ?_⟩
  rw [a5]
  exact q _ H G (.v (.bl _)) (Ext.refl s) toB hk
theorem op2_notin : Op2 K (rNotInD K) (kIn true) := by
  intro H0 G Hs H x y v u Q κ ε s s0 sh rx ry h q
  obtain ⟨ds, e, ⟨p1, p2⟩, hk⟩ := asL.of h
  obtain ⟨d, es, a1, a2, a3, a4, a5⟩ := inD_go s s0 rx ry e p1 p2
  refine ⟨d, es, a1, a2, a3, a4, ?_⟩
  rw [a5]
  exact q _ H G (.v (.bl _)) (Ext.refl s) toB hk
def isNon : Dat → Bool
  | .non => true
  | _ => false
def kIsN (neg : Bool) : Rv → Rv → (Rv → Prop) → (Str → Prop) → Prop := fun x _ κ _ => κ (.v (.bl (if neg = true then !isNon x.dat else isNon x.dat)))
theorem rd_non {G : Hp} {d : Dat} {v : V} (h : RdD K G d v) : decide (v = .non) = isNon d := by
  cases d with
  | non => unfold RdD at h; subst h; rfl
  | bl b => unfold RdD at h; subst h; rfl
  | int b => unfold RdD at h; subst h; rfl
  | str b => unfold RdD at h; subst h; rfl
  | tup b => unfold RdD at h; obtain ⟨a, vs, rfl, _⟩ := h; rfl
  | lst b => unfold RdD at h; obtain ⟨a, vs, rfl, _⟩ := h; rfl
  | dic b => unfold RdD at h; obtain ⟨a, rfl, _⟩ := h; rfl
def kIsB (neg : Bool) : Rv → Rv → (Rv → Prop) → (Str → Prop) → Prop := fun x y κ _ => asB x fun a => asB y fun b => κ (.v (.bl (if neg = true then !decide (a = b) else decide (a = b))))
theorem op2_isB : Op2 K rIsB (kIsB false) := by
  intro H0 G Hs H x y v u Q κ ε s s0 sh rx ry h q
  obtain ⟨a, rfl, h1⟩ := asB.of h
  obtain ⟨b, rfl, hk⟩ := asB.of h1
  exact ⟨a, b, rvB rx, rvB ry, q _ H G (.v (.bl _)) (Ext.refl s) toB hk⟩
theorem op2_isnB : Op2 K rNotB (kIsB true) := by
  intro H0 G Hs H x y v u Q κ ε s s0 sh rx ry h q
  obtain ⟨a, rfl, h1⟩ := asB.of h
  obtain ⟨b, rfl, hk⟩ := asB.of h1
  exact ⟨a, b, rvB rx, rvB ry, q _ H G (.v (.bl _)) (Ext.refl s) toB hk⟩
def dIn (neg : Bool) := dBin (kIn neg)
def dIsN (neg : Bool) (a : DE) : DE := dBin (kIsN neg) a (dC .non)
def dIsB (neg : Bool) (b : Bool) (a : DE) : DE := dBin (kIsB neg) a (dC (.bl b))
def rIsN1 (K : PySem.W.Frag) : R2 := fun x y H Q => y = .non ∧ Q (.bl (decide (x = .non))) H
section
variable {X : Cx} {W : WX} {a b : Expr} {da db : DE} {pos p2 : Pos} {j : Nat}
theorem op2_isN {neg : Bool} (f : Bool → Bool) (hf : ∀ c, f c = if neg = true then !c else c) : ∀ (H0 G Hs H : Hp) (x y : Rv) (v u : V) (Q : VK) (κ : Rv → Prop) (ε : Str → Prop), Same G H → Same H0 H → Same Hs H → RvR K H0 G Hs H x v → y = .v .non → RvR K H0 G Hs H y u → kIsN neg x y κ ε →
    (∀ w H' G' z, Ext H G H' G' → RvR K H0 G' H H' z w → κ z → Q w H') → u = .non ∧ Q (.bl (f (decide (v = .non)))) H := by
  intro H0 G Hs H x y v u Q κ ε s s0 sh rx ey ry h q
  subst ey
  have ry : RdD K G .non u := ry
  unfold RdD at ry
  refine ⟨ry, ?_⟩
  rw [hf, rd_non (rx.read s s0)]
  exact q _ H G (.v (.bl _)) (Ext.refl s) toB h
theorem me_isN (ha : ME X W a da) : ME X W (.Compare a [.Is] [.Constant .none j p2] pos) (dIsN false da) := by
  obtain ⟨ta, pa, oa⟩ := ha
  refine ⟨_, pe_cmpR op_isN pa pe_non (nomark _), fun H0 G0 G ρ σ H Q κ ε R h hq hx => ?_⟩
  refine oa H0 G0 G ρ σ H _ _ ε R h (fun v H1 G1 x e1 r1 h1 => ?_) hx
  have R1 := R.on e1
  exact op2_isN (neg := false) id (fun c => rfl) H0 G1 H H1 x (.v .non) v .non Q κ ε e1.s R1.ext.h e1.h r1 rfl (by show RdD X.K _ _ _; unfold RdD; rfl) h1 fun w H' G' z e3 r3 h3 => hq w H' G' z (e1.trans e3) (r3.back e1.h) h3
theorem me_isNn (ha : ME X W a da) : ME X W (.Compare a [.IsNot] [.Constant .none j p2] pos) (dIsN true da) := by
  obtain ⟨ta, pa, oa⟩ := ha
  refine ⟨_, pe_cmpR op_notN pa pe_non (nomark _), fun H0 G0 G ρ σ H Q κ ε R h hq hx => ?_⟩
  refine oa H0 G0 G ρ σ H _ _ ε R h (fun v H1 G1 x e1 r1 h1 => ?_) hx
  have R1 := R.on e1
  exact op2_isN (neg := true) (fun c => !c) (fun c => rfl) H0 G1 H H1 x (.v .non) v .non Q κ ε e1.s R1.ext.h e1.h r1 rfl (by show RdD X.K _ _ _; unfold RdD; rfl) h1 fun w H' G' z e3 r3 h3 => hq w H' G' z (e1.trans e3) (r3.back e1.h) h3
theorem mt_isN (ha : ME X W a da) : MT X W (.Compare a [.Is] [.Constant .none j p2] pos) (tVal (dIsN false da)) := by
  obtain ⟨ta, pa, oa⟩ := ha
  refine ⟨_, pt_cmpR op_isN pa pe_non (nomark _), tok_val fun H0 G0 G ρ σ H Q κ ε R h hq hx => ?_⟩
  refine oa H0 G0 G ρ σ H _ _ ε R h (fun v H1 G1 x e1 r1 h1 => ?_) hx
  have R1 := R.on e1
  exact op2_isN (neg := false) id (fun c => rfl) H0 G1 H H1 x (.v .non) v .non Q κ ε e1.s R1.ext.h e1.h r1 rfl (by show RdD X.K _ _ _; unfold RdD; rfl) h1 fun w H' G' z e3 r3 h3 => hq w H' G' z (e1.trans e3) (r3.back e1.h) h3
theorem mt_isNn (ha : ME X W a da) : MT X W (.Compare a [.IsNot] [.Constant .none j p2] pos) (tVal (dIsN true da)) := by
  obtain ⟨ta, pa, oa⟩ := ha
  refine ⟨_, pt_cmpR op_notN pa pe_non (nomark _), tok_val fun H0 G0 G ρ σ H Q κ ε R h hq hx => ?_⟩
  refine oa H0 G0 G ρ σ H _ _ ε R h (fun v H1 G1 x e1 r1 h1 => ?_) hx
  have R1 := R.on e1
  exact op2_isN (neg := true) (fun c => !c) (fun c => rfl) H0 G1 H H1 x (.v .non) v .non Q κ ε e1.s R1.ext.h e1.h r1 rfl (by show RdD X.K _ _ _; unfold RdD; rfl) h1 fun w H' G' z e3 r3 h3 => hq w H' G' z (e1.trans e3) (r3.back e1.h) h3
theorem me_isB {c : Bool} (ha : ME X W a da) : ME X W (.Compare a [.Is] [.Constant (.bool c) j p2] pos) (dIsB false c da) := me_cmp op_isBl op2_isB ha me_bl (nomark _)
theorem me_isBn {c : Bool} (ha : ME X W a da) : ME X W (.Compare a [.IsNot] [.Constant (.bool c) j p2] pos) (dIsB true c da) := me_cmp op_notBl op2_isnB ha me_bl (nomark _)
theorem mt_isB {c : Bool} (ha : ME X W a da) : MT X W (.Compare a [.Is] [.Constant (.bool c) j p2] pos) (tVal (dIsB false c da)) := mt_cmp op_isBl op2_isB ha me_bl (nomark _)
theorem mt_isBn {c : Bool} (ha : ME X W a da) : MT X W (.Compare a [.IsNot] [.Constant (.bool c) j p2] pos) (tVal (dIsB true c da)) := mt_cmp op_notBl op2_isnB ha me_bl (nomark _)
theorem me_in (hu : X.A.units + 65 < cLine) (ha : ME X W a da) (hb : ME X W b db) (hm : behindInMarks .In b = false := by rfl) : ME X W (.Compare a [.In] [b] pos) (dIn false da db) := me_cmp (op_inD hu) op2_in ha hb hm
theorem me_notin (hu : X.A.units + 65 < cLine) (ha : ME X W a da) (hb : ME X W b db) (hm : behindInMarks .NotIn b = false := by rfl) : ME X W (.Compare a [.NotIn] [b] pos) (dIn true da db) := me_cmp (op_notInD hu) op2_notin ha hb hm
theorem mt_in (hu : X.A.units + 65 < cLine) (ha : ME X W a da) (hb : ME X W b db) (hm : behindInMarks .In b = false := by rfl) : MT X W (.Compare a [.In] [b] pos) (tVal (dIn false da db)) := mt_cmp (op_inD hu) op2_in ha hb hm
theorem mt_notin (hu : X.A.units + 65 < cLine) (ha : ME X W a da) (hb : ME X W b db) (hm : behindInMarks .NotIn b = false := by rfl) : MT X W (.Compare a [.NotIn] [b] pos) (tVal (dIn true da db)) := mt_cmp (op_notInD hu) op2_notin ha hb hm
end
end DL
namespace DL
open PySem PySem.Spec PyProof.Rows L2
variable {K : PySem.W.Frag}

/-! ### order of data -/
/-- comparable -/
def cmpO (a b : Dat) : Bool := shp 64 a && shp 64 b && PySem.W.alike (toPy a) (toPy b) && !isNon a
def ltD (a b : Dat) : Bool := PySem.W.dataLt (toPy a) (toPy b)
theorem cmpO_ok {a b : Dat} (h : cmpO a b = true) : plainD a = true ∧ plainD b = true ∧ PySem.W.alike (toPy a) (toPy b) = true ∧ toPy a ≠ .none ∧ (toPy a).depth ≤ 64 := by
  unfold cmpO at h
  rw [Bool.and_eq_true, Bool.and_eq_true, Bool.and_eq_true] at h
  obtain ⟨⟨⟨h1, h2⟩, h3⟩, h4⟩ := h
  obtain ⟨a1, a2, a3⟩ := shp_ok 64 a h1
  obtain ⟨b1, b2, b3⟩ := shp_ok 64 b h2
  refine ⟨a1, b1, h3, fun z => ?_, a3⟩
  cases a with
  | non => exact nomatch h4
  | dic kvs => unfold plainD at a1; exact nomatch a1
  | _ => unfold toPy at z; exact nomatch z
def rCmpD (K : PySem.W.Frag) (f : PyData → PyData → Bool) : R2 := fun x y H Q => ∃ d e, Dp K H x d ∧ Dp K H y e ∧ PySem.W.alike d e = true ∧ d ≠ .none ∧ d.depth ≤ 64 ∧ Q (.bl (f d e)) H
section
variable {X : Cx}
theorem op_ltD (hu : X.A.units + 64 < cLine) : OpR X (compareOp .Lt) (rCmpD X.K fun d e => PySem.W.dataLt d e) := by
  intro pins s σ H x y v u Q I rx ry ⟨d, e, hd, he, a1, a2, a3, q⟩
  obtain ⟨as, r1⟩ := Dp.reads I d x v hd rx
  obtain ⟨bs, r2⟩ := Dp.reads I e y u he ry
  exact PySem.W.lt_data r1 r2 a1 a2 (by have := Nat.min_le_left d.depth e.depth; omega) ⟨.bl _, H, I, rfl, q⟩
theorem op_gtD (hu : X.A.units + 64 < cLine) : OpR X (compareOp .Gt) (rCmpD X.K fun d e => PySem.W.dataLt e d) := by
  intro pins s σ H x y v u Q I rx ry ⟨d, e, hd, he, a1, a2, a3, q⟩
  obtain ⟨as, r1⟩ := Dp.reads I d x v hd rx
  obtain ⟨bs, r2⟩ := Dp.reads I e y u he ry
  exact PySem.W.gt_data r1 r2 a1 a2 (by have := Nat.min_le_left d.depth e.depth; omega) ⟨.bl _, H, I, rfl, q⟩
theorem op_leD (hu : X.A.units + 64 < cLine) : OpR X (compareOp .LtE) (rCmpD X.K fun d e => !PySem.W.dataLt e d) := by
  intro pins s σ H x y v u Q I rx ry ⟨d, e, hd, he, a1, a2, a3, q⟩
  obtain ⟨as, r1⟩ := Dp.reads I d x v hd rx
  obtain ⟨bs, r2⟩ := Dp.reads I e y u he ry
  exact PySem.W.le_data r1 r2 a1 a2 (by have := Nat.min_le_left d.depth e.depth; omega) ⟨.bl _, H, I, rfl, q⟩
theorem op_geD (hu : X.A.units + 64 < cLine) : OpR X (compareOp .GtE) (rCmpD X.K fun d e => !PySem.W.dataLt d e) := by
  intro pins s σ H x y v u Q I rx ry ⟨d, e, hd, he, a1, a2, a3, q⟩
  obtain ⟨as, r1⟩ := Dp.reads I d x v hd rx
  obtain ⟨bs, r2⟩ := Dp.reads I e y u he ry
  exact PySem.W.ge_data r1 r2 a1 a2 (by have := Nat.min_le_left d.depth e.depth; omega) ⟨.bl _, H, I, rfl, q⟩
end
def kCmp (g : Dat → Dat → Bool) : Rv → Rv → (Rv → Prop) → (Str → Prop) → Prop := fun x y κ _ => cmpO x.dat y.dat = true ∧ κ (.v (.bl (g x.dat y.dat)))
theorem op2_cmp {f : PyData → PyData → Bool} {g : Dat → Dat → Bool} (hfg : ∀ a b, g a b = f (toPy a) (toPy b)) : Op2 K (rCmpD K f) (kCmp g) := by
  intro H0 G Hs H x y v u Q κ ε s s0 sh rx ry h q
  obtain ⟨h1, hk⟩ := h
  obtain ⟨p1, p2, p3, p4, p5⟩ := cmpO_ok h1
  refine ⟨_, _, RdD.dp _ _ p1 (rx.read s s0), RdD.dp _ _ p2 (ry.read s s0), p3, p4, p5, ?_⟩
  rw [← hfg]
  exact q _ H G (.v (.bl _)) (Ext.refl s) toB hk
def dLtT := dBin (kCmp fun a b => ltD a b)
def dGtT := dBin (kCmp fun a b => ltD b a)
def dLeT := dBin (kCmp fun a b => !ltD b a)
def dGeT := dBin (kCmp fun a b => !ltD a b)
section
variable {X : Cx} {W : WX} {a b : Expr} {da db : DE} {pos : Pos}
theorem me_ltT (hu : X.A.units + 64 < cLine) (ha : ME X W a da) (hb : ME X W b db) : ME X W (.Compare a [.Lt] [b] pos) (dLtT da db) := me_cmp (op_ltD hu) (op2_cmp fun _ _ => rfl) ha hb (nomark _)
theorem me_gtT (hu : X.A.units + 64 < cLine) (ha : ME X W a da) (hb : ME X W b db) : ME X W (.Compare a [.Gt] [b] pos) (dGtT da db) := me_cmp (op_gtD hu) (op2_cmp fun _ _ => rfl) ha hb (nomark _)
theorem me_leT (hu : X.A.units + 64 < cLine) (ha : ME X W a da) (hb : ME X W b db) : ME X W (.Compare a [.LtE] [b] pos) (dLeT da db) := me_cmp (op_leD hu) (op2_cmp fun _ _ => rfl) ha hb (nomark _)
theorem me_geT (hu : X.A.units + 64 < cLine) (ha : ME X W a da) (hb : ME X W b db) : ME X W (.Compare a [.GtE] [b] pos) (dGeT da db) := me_cmp (op_geD hu) (op2_cmp fun _ _ => rfl) ha hb (nomark _)
theorem mt_ltT (hu : X.A.units + 64 < cLine) (ha : ME X W a da) (hb : ME X W b db) : MT X W (.Compare a [.Lt] [b] pos) (tVal (dLtT da db)) := mt_cmp (op_ltD hu) (op2_cmp fun _ _ => rfl) ha hb (nomark _)
theorem mt_gtT (hu : X.A.units + 64 < cLine) (ha : ME X W a da) (hb : ME X W b db) : MT X W (.Compare a [.Gt] [b] pos) (tVal (dGtT da db)) := mt_cmp (op_gtD hu) (op2_cmp fun _ _ => rfl) ha hb (nomark _)
theorem mt_leT (hu : X.A.units + 64 < cLine) (ha : ME X W a da) (hb : ME X W b db) : MT X W (.Compare a [.LtE] [b] pos) (tVal (dLeT da db)) := mt_cmp (op_leD hu) (op2_cmp fun _ _ => rfl) ha hb (nomark _)
theorem mt_geT (hu : X.A.units + 64 < cLine) (ha : ME X W a da) (hb : ME X W b db) : MT X W (.Compare a [.GtE] [b] pos) (tVal (dGeT da db)) := mt_cmp (op_geD hu) (op2_cmp fun _ _ => rfl) ha hb (nomark _)
end

/-! ### sorted, min, max of a list of data -/
/-- such that they can be put in order -/
structure SrtOk (ds : List Dat) : Prop where
  sh : shpL 63 ds = true
  al : PySem.W.AllAlike (toPyL ds)
  so : PySem.W.Sortable (toPyL ds)
theorem toPyL_map : ∀ ds : List Dat, toPyL ds = ds.map toPy
  | [] => by unfold toPyL; rfl
  | d :: ds => by unfold toPyL; rw [toPyL_map ds]; rfl
theorem shpL_mem {n : Nat} : ∀ {ds : List Dat}, shpL n ds = true → ∀ d ∈ ds, shp n d = true
  | [], _, _, h => nomatch h
  | x :: xs, h, d, hm => by
    unfold shpL at h
    rw [Bool.and_eq_true] at h
    rcases List.mem_cons.mp hm with e | hm
    · rw [e]; exact h.1
    · exact shpL_mem h.2 d hm
def sortD (ds : List Dat) : List Dat := ds.mergeSort fun a b => !ltD b a
def rSortD (K : PySem.W.Frag) : List V → Hp → VK → Prop := fun vs H Q => ∃ (a : Addr) (ds : List Dat) (xs : List V), vs = [V.ref a] ∧ SqL K H a xs ∧ RdL K H ds xs ∧ SrtOk ds ∧
  ∀ (ys : List V) (p : Addr), (∀ G, RdL K G ds xs → RdL K G (sortD ds) ys) → H p = none → Q (.ref p) (upd H p (.lst ys))
theorem each_vals {us : List Value} {α : Type} {f : α → V} : ∀ {bs : List α}, PySem.W.EachIs (fun (u : Value) (b : α) => RelV (f b) u) us bs → Vals (bs.map f) us := by
  intro bs h
  induction h with
  | nil => exact .nil
  | cons r _ ih => exact .cons r ih
theorem each_of : ∀ {xs : List V} {us : List Value} {ds : List Dat}, Vals xs us → ds.length = xs.length → PySem.W.EachIs (fun (u : Value) (b : Dat × V) => RelV b.2 u) us (ds.zip xs)
  | [], _, ds, .nil, e => by
    cases ds with
    | nil => exact .nil
    | cons d ds => exact nomatch e
  | x :: xs, _, ds, .cons r t, e => by
    cases ds with
    | nil => exact nomatch e
    | cons d ds => exact .cons r (each_of t (Nat.succ.inj e))
theorem RdL.zip {G : Hp} : ∀ {ds : List Dat} {xs : List V}, RdL K G ds xs → ∀ p ∈ ds.zip xs, RdD K G p.1 p.2
  | [], xs, h, p, hp => by simp at hp
  | d :: ds, xs, h, p, hp => by
    unfold RdL at h
    obtain ⟨v, r, rfl, h1, h2⟩ := h
    rw [List.zip_cons_cons] at hp
    rcases List.mem_cons.mp hp with e | hp
    · rw [e]; exact h1
    · exact RdL.zip h2 p hp
theorem RdL.of_pairs {G : Hp} : ∀ {ps : List (Dat × V)}, (∀ p ∈ ps, RdD K G p.1 p.2) → RdL K G (ps.map (·.1)) (ps.map (·.2))
  | [], _ => RdL.nil
  | p :: ps, h => RdL.cons (h p List.mem_cons_self) (RdL.of_pairs fun q hq => h q (List.mem_cons_of_mem _ hq))
theorem zip_fst {α β : Type} : ∀ {xs : List α} {ys : List β}, xs.length = ys.length → (xs.zip ys).map (·.1) = xs
  | [], _, _ => by simp
  | x :: xs, [], h => nomatch h
  | x :: xs, y :: ys, h => by rw [List.zip_cons_cons, List.map_cons, zip_fst (Nat.succ.inj h)]
theorem zip_snd {α β : Type} : ∀ {xs : List α} {ys : List β}, xs.length = ys.length → (xs.zip ys).map (·.2) = ys
  | [], [], _ => rfl
  | [], _ :: _, h => nomatch h
  | x :: xs, [], h => nomatch h
  | x :: xs, y :: ys, h => by rw [List.zip_cons_cons, List.map_cons, zip_snd (Nat.succ.inj h)]
theorem SrtOk.ok {ds : List Dat} (h : SrtOk ds) : ∀ d ∈ ds, plainD d = true ∧ (toPy d).depth ≤ 63 := fun d hd => by
  obtain ⟨a, b, c⟩ := shp_ok 63 d (shpL_mem h.sh d hd)
  exact ⟨a, c⟩
theorem cr_sortD {X : Cx} (hu : X.A.units + 66 < cLine) : CallR X (.builtin "sorted") (rSortD X.K) := by
  intro pins s σ H vs us Q I r h
  obtain ⟨a, ds, xs, rfl, hs, hr, ok, q⟩ := h
  obtain ⟨its, rv, hl, hz⟩ := I.list hs
  rw [Vals.ref1 r]
  have hlen := hr.len
  have ef : (ds.zip xs).map (fun b => toPy b.1) = toPyL ds := by
    have e0 : (ds.zip xs).map (fun b => toPy b.1) = ((ds.zip xs).map (·.1)).map toPy := by rw [List.map_map]; rfl
    rw [toPyL_map, e0, zip_fst hlen]
  have e1 := each_of (ds := ds) rv hlen
  have e2 : PySem.W.EachIs (fun (v : Value) (b : Dat × V) => ∃ as, Reads s.heap v (toPy b.1) as) its (ds.zip xs) := by
    have key : ∀ {us : List Value} {bs : List (Dat × V)}, PySem.W.EachIs (fun (u : Value) (b : Dat × V) => RelV b.2 u) us bs → (∀ b ∈ bs, RdD X.K H b.1 b.2 ∧ plainD b.1 = true) → PySem.W.EachIs (fun (v : Value) (b : Dat × V) => ∃ as, Reads s.heap v (toPy b.1) as) us bs := by
      intro us bs h
      induction h with
      | nil => intro _; exact .nil
      | cons r _ ih =>
        intro hb
        obtain ⟨b1, b2⟩ := hb _ List.mem_cons_self
        exact .cons (Dp.reads I _ _ _ (RdD.dp _ _ b2 b1) r) (ih fun b hm => hb b (List.mem_cons_of_mem _ hm))
    refine key e1 fun b hb => ⟨hr.zip b hb, (ok.ok b.1 ?_).1⟩
    exact (List.of_mem_zip (a := b.1) (b := b.2) hb).1
  have hlz : (ds.zip xs).length ≤ sizeLine := by rw [List.length_zip, hlen, Nat.min_self]; exact hz
  refine PySem.W.sorted_data (enc := fun b : Dat × V => toPy b.1) hl.isList e1 e2 (by rw [ef]; exact ok.al) (by rw [ef]; exact ok.so) hlz (fun b hb => ?_) fun out ho h2 => ?_
  · have := (ok.ok b.1 (List.of_mem_zip (a := b.1) (b := b.2) hb).1).2
    show X.A.units + 2 + (toPy b.1).depth < cLine
    omega
  · obtain ⟨ep, he'⟩ := PyProof.Rows.sortedAll_at s.heap its out.toArray
    have hv := each_vals h2
    generalize hS : (ds.zip xs).mergeSort (PySem.W.dataLe false fun b : Dat × V => toPy b.1) = S at h2 hv
    have em : S.map (·.1) = sortD ds := by
      rw [← hS]
      unfold sortD
      have e0 := List.map_mergeSort (l := ds.zip xs) (r := PySem.W.dataLe false fun b : Dat × V => toPy b.1) (s := fun a b => !ltD b a) (f := fun p : Dat × V => p.1) (fun a _ b _ => rfl)
      rw [zip_fst hlen] at e0
      exact e0
    have hp : ∀ p ∈ S, p ∈ ds.zip xs := fun p hm => by rw [← hS] at hm; exact (List.mem_mergeSort).mp hm
    have hl2 : (S.map (·.2)).length ≤ sizeLine := by rw [List.length_map, ← hS, List.length_mergeSort]; exact hlz
    refine ⟨.ref _, upd H (s.heap.objs.size + 1) (.lst (S.map (·.2))), I.laid (t' := s.toks) (fun _ _ => PyProof.Rows.sortedAll_old) (Nat.le_succ _) ⟨hl2, out, ep, hv, he'⟩, rfl, q _ _ (fun G hG => ?_) (I.hok.fresh (Nat.le_succ _))⟩
    rw [← em]
    exact RdL.of_pairs fun p hm => hG.zip p (hp p hm)
def kSort : List Rv → (Rv → Prop) → Prop := fun rs κ => match rs with
  | [x] => asL x fun ds => SrtOk ds ∧ κ (.n (sortD ds))
  | _ => False
theorem opa_sort : OpA K (rSortD K) kSort := by
  intro H0 G Hs H rs vs Q κ s s0 sh h k q
  unfold kSort at k
  split at k
  · obtain ⟨v, rfl, h1⟩ := rvs1 h
    obtain ⟨ds, e, ok, k1⟩ := asL.of k
    obtain ⟨l, us, rfl, b, c⟩ := h1.lst s s0 e
    refine ⟨l, ds, us, rfl, b, c.mono s, ok, fun ys p hy np => ?_⟩
    exact q _ _ _ (.n (sortD ds)) (Ext.newH s np) ⟨p, ys, rfl, upd_same, hy G c, np, s.free np⟩ k1
  · exact k.elim
def dSorted (a : DE) : DE := dB kSort (aCons a aNil)
/-- min, max of a list of data: the first of the least, of the greatest -/
def minO (d : Dat) (ds : List Dat) : Dat := ds.foldl (fun a y => if ltD y a = true then y else a) d
def maxO (d : Dat) (ds : List Dat) : Dat := ds.foldl (fun a y => if ltD a y = true then y else a) d
theorem minO_py (d : Dat) (ds : List Dat) : PySem.W.minD (toPy d) (toPyL ds) = toPy (minO d ds) := by
  unfold PySem.W.minD minO
  rw [toPyL_map, List.foldl_map]
  induction ds generalizing d with
  | nil => rfl
  | cons x xs ih =>
    rw [List.foldl_cons, List.foldl_cons, ← ih]
    congr 1
    unfold ltD
    split <;> rfl
theorem maxO_py (d : Dat) (ds : List Dat) : PySem.W.maxD (toPy d) (toPyL ds) = toPy (maxO d ds) := by
  unfold PySem.W.maxD maxO
  rw [toPyL_map, List.foldl_map]
  induction ds generalizing d with
  | nil => rfl
  | cons x xs ih =>
    rw [List.foldl_cons, List.foldl_cons, ← ih]
    congr 1
    unfold ltD
    split <;> rfl
theorem getD_py (ds : List Dat) (i : Nat) : (toPyL ds).getD i .none = toPy (ds.getD i .non) := by
  rw [toPyL_map, List.getD_eq_getElem?_getD, List.getD_eq_getElem?_getD, List.getElem?_map]
  cases ds[i]? with
  | none => unfold toPy; rfl
  | some d => rfl
/-- such that any two of them can be compared -/
structure AlkOk (ds : List Dat) : Prop where
  sh : shpL 63 ds = true
  al : PySem.W.AlikeAll (toPyL ds)
def rMmD (K : PySem.W.Frag) (m : Dat → List Dat → Dat) : List V → Hp → VK → Prop := fun vs H Q => ∃ (a : Addr) (d : Dat) (ds : List Dat) (xs : List V), vs = [V.ref a] ∧ SqL K H a xs ∧ RdL K H (d :: ds) xs ∧ AlkOk (d :: ds) ∧
  ∀ (i : Nat) (x : V), xs[i]? = some x → (d :: ds)[i]? = some (m d ds) → Q x H
theorem best_at {f : Dat → Dat → Bool} (d : Dat) (ds : List Dat) {i : Nat} (hi : i = argBest (fun i j => f ((d :: ds).getD i .non) ((d :: ds).getD j .non)) ds.length) : (d :: ds)[i]? = some (ds.foldl (fun a y => if f y a = true then y else a) d) := by
  obtain ⟨h1, h2⟩ := PySem.W.argBest_fold f Dat.non d ds ds.length (Nat.le_refl _)
  rw [← hi] at h1 h2
  rw [List.take_length] at h2
  rw [← h2, List.getD_eq_getElem?_getD]
  have : i < (d :: ds).length := by rw [List.length_cons]; omega
  rw [List.getElem?_eq_getElem this]; rfl
theorem vals_at : ∀ {xs : List V} {us : List Value}, Vals xs us → ∀ (i : Nat) (u : Value), us[i]? = some u → ∃ x, xs[i]? = some x ∧ RelV x u
  | [], _, .nil, i, u, h => by simp at h
  | x :: xs, _, .cons r t, i, u, h => by
    cases i with
    | zero => simp at h; subst h; exact ⟨x, rfl, r⟩
    | succ i => simpa using vals_at t i u (by simpa using h)
theorem AlkOk.plain {ds : List Dat} (h : AlkOk ds) : plainDL ds = true ∧ PyData.depthAll (toPyL ds) ≤ 63 := by
  obtain ⟨a, b, c⟩ := shpL_ok 63 ds h.sh
  exact ⟨a, c⟩
theorem cr_minD {X : Cx} (hc : X.calm = true) (hu : X.A.units + 66 < cLine) : CallR X (.builtin "min") (rMmD X.K minO) := by
  intro pins s σ H vs us Q I r h
  obtain ⟨a, d, ds, xs, rfl, hs, hr, ok, q⟩ := h
  obtain ⟨its, rv, hl, hz⟩ := I.list hs
  rw [Vals.ref1 r]
  obtain ⟨p1, p2⟩ := ok.plain
  have hlen := hr.len
  have hl2 := rv.length
  obtain ⟨as, ra⟩ := Dp.readsAll I _ _ _ (RdL.dp _ _ p1 hr) rv
  have ra' : ReadsAll s.heap its.toArray.toList (toPyL (d :: ds)) as := by simpa using ra
  refine PySem.call_min_walkH (PySem.W.iter_listW (A := X.A.in1) (I.ok.hd hc) hl.isList fun s₂ e W st hfp hw hk => ?_)
  refine ⟨_, _, _, _, _, _, _, s.heap, _, rfl, W, st, hfp, by rw [List.size_toArray, ← hl2, ← hlen, List.length_cons]; omega, hw, hk, PySem.W.cmpIn_lt (A := X.A.in1) ra' ok.al (by show X.A.units + 1 + _ < _; omega), fun v s' hP m => ?_⟩
  obtain ⟨h', tk, rfl, hk'⟩ := PySem.W.moved_old e rfl m
  have e1 : its.toArray.size - 1 = ds.length := by rw [List.size_toArray, ← hl2, ← hlen, List.length_cons]; omega
  rw [e1] at hP
  have ebt : (fun i j => PySem.W.dataLt ((toPyL (d :: ds)).getD i .none) ((toPyL (d :: ds)).getD j .none)) = fun i j => ltD ((d :: ds).getD i .non) ((d :: ds).getD j .non) := by
    funext i j; rw [getD_py, getD_py]; rfl
  rw [ebt] at hP
  have hP : its.toArray[argBest (fun i j => ltD ((d :: ds).getD i .non) ((d :: ds).getD j .non)) ds.length]? = some v := hP
  obtain ⟨x, hx, rx⟩ := vals_at rv _ v (by simpa using hP)
  exact ⟨x, H, I.kept (t' := tk) hk', rx, q _ x hx (best_at d ds rfl)⟩
theorem cr_maxD {X : Cx} (hc : X.calm = true) (hu : X.A.units + 66 < cLine) : CallR X (.builtin "max") (rMmD X.K maxO) := by
  intro pins s σ H vs us Q I r h
  obtain ⟨a, d, ds, xs, rfl, hs, hr, ok, q⟩ := h
  obtain ⟨its, rv, hl, hz⟩ := I.list hs
  rw [Vals.ref1 r]
  obtain ⟨p1, p2⟩ := ok.plain
  have hlen := hr.len
  have hl2 := rv.length
  obtain ⟨as, ra⟩ := Dp.readsAll I _ _ _ (RdL.dp _ _ p1 hr) rv
  have ra' : ReadsAll s.heap its.toArray.toList (toPyL (d :: ds)) as := by simpa using ra
  refine PySem.call_max_walkH (PySem.W.iter_listW (A := X.A.in1) (I.ok.hd hc) hl.isList fun s₂ e W st hfp hw hk => ?_)
  refine ⟨_, _, _, _, _, _, _, s.heap, _, rfl, W, st, hfp, by rw [List.size_toArray, ← hl2, ← hlen, List.length_cons]; omega, hw, hk, PySem.W.cmpIn_gt (A := X.A.in1) ra' ok.al (by show X.A.units + 1 + _ < _; omega), fun v s' hP m => ?_⟩
  obtain ⟨h', tk, rfl, hk'⟩ := PySem.W.moved_old e rfl m
  have e1 : its.toArray.size - 1 = ds.length := by rw [List.size_toArray, ← hl2, ← hlen, List.length_cons]; omega
  rw [e1] at hP
  have ebt : (fun i j => PySem.W.dataLt ((toPyL (d :: ds)).getD j .none) ((toPyL (d :: ds)).getD i .none)) = fun i j => ltD ((d :: ds).getD j .non) ((d :: ds).getD i .non) := by
    funext i j; rw [getD_py, getD_py]; rfl
  rw [ebt] at hP
  have hP : its.toArray[argBest (fun i j => ltD ((d :: ds).getD j .non) ((d :: ds).getD i .non)) ds.length]? = some v := hP
  obtain ⟨x, hx, rx⟩ := vals_at rv _ v (by simpa using hP)
  exact ⟨x, H, I.kept (t' := tk) hk', rx, q _ x hx (best_at (f := fun a b => ltD b a) d ds rfl)⟩
def kMm (m : Dat → List Dat → Dat) : List Rv → (Rv → Prop) → Prop := fun rs κ => match rs with
  | [x] => asL x fun ds => match ds with
    | d :: ds => AlkOk (d :: ds) ∧ κ (.v (m d ds))
    | [] => False
  | _ => False
theorem opa_mm {m : Dat → List Dat → Dat} : OpA K (rMmD K m) (kMm m) := by
  intro H0 G Hs H rs vs Q κ s s0 sh h k q
  unfold kMm at k
  split at k
  · obtain ⟨v, rfl, h1⟩ := rvs1 h
    obtain ⟨ds, e, k1⟩ := asL.of k
    split at k1
    · rename_i d ds
      obtain ⟨ok, k1⟩ := k1
      obtain ⟨l, us, rfl, b, c⟩ := h1.lst s s0 e
      refine ⟨l, d, ds, us, rfl, b, c.mono s, ok, fun i x hx hd => ?_⟩
      obtain ⟨y, hy, ry⟩ := c.get hd
      rw [hx] at hy
      cases hy
      exact q _ _ _ (.v (m d ds)) (Ext.refl s) ry k1
    · exact k1.elim
  · exact k.elim
section
variable {X : Cx} {W : WX} {p pos : Pos} {e : Expr} {d : DE}
theorem Room.u66 {k : Nat} {A : Around} (r : Room k A) : A.units + 66 < cLine := by have := r.un; omega
theorem Room.u65 {k : Nat} {A : Around} (r : Room k A) : A.units + 65 < cLine := by have := r.un; omega
theorem me_sorted {k : Nat} (C : Cn X W k) (hm : X.mg "sorted" = none) (h : ME X W e d) (hg : Gl X "sorted" := by rfl) (he : starEach [e] X.env = (false, eval e X.env) :: starEach [] X.env := by rfl) (hpl : (backTo pos (starEach [] X.env)).any (·.1) = false := by rfl) : ME X W (.Call (.Name "sorted" p) [e] [] pos) (dSorted d) :=
  me_B (cr_sortD (Room.u66 C.hr)) opa_sort (by decide +kernel) hm (ma_cons h ma_nil he) hg (by decide) (by decide) he hpl
theorem me_minD {k : Nat} (C : Cn X W k) (hm : X.mg "min" = none) (h : ME X W e d) (hg : Gl X "min" := by rfl) (he : starEach [e] X.env = (false, eval e X.env) :: starEach [] X.env := by rfl) (hpl : (backTo pos (starEach [] X.env)).any (·.1) = false := by rfl) : ME X W (.Call (.Name "min" p) [e] [] pos) (dB (kMm minO) (aCons d aNil)) :=
  me_B (cr_minD C.hc (Room.u66 C.hr)) opa_mm (by decide +kernel) hm (ma_cons h ma_nil he) hg (by decide) (by decide) he hpl
theorem me_maxD {k : Nat} (C : Cn X W k) (hm : X.mg "max" = none) (h : ME X W e d) (hg : Gl X "max" := by rfl) (he : starEach [e] X.env = (false, eval e X.env) :: starEach [] X.env := by rfl) (hpl : (backTo pos (starEach [] X.env)).any (·.1) = false := by rfl) : ME X W (.Call (.Name "max" p) [e] [] pos) (dB (kMm maxO) (aCons d aNil)) :=
  me_B (cr_maxD C.hc (Room.u66 C.hr)) opa_mm (by decide +kernel) hm (ma_cons h ma_nil he) hg (by decide) (by decide) he hpl
end
end DL
namespace L2
open PySem PySem.Spec PyProof.Rows
/-- the pair under a key -/
def prI (q : Addr × List Int) : Int × Int := (q.2.getD 0 0, q.2.getD 1 0)
def encI (q : Addr × List Int) : PyData := .tuple [.int (prI q).1, .int (prI q).2]
def LtP (p q : Int × Int) : Prop := p.1 < q.1 ∨ (p.1 = q.1 ∧ p.2 < q.2)
section
variable {P : Program} {w : World} {A : Around} {s : Shared} {E : Value → Shared → Prop}
theorem encI_eq {q : Addr × List Int} (h : q.2.length = 2) : encI q = .tuple (q.2.map .int) := by
  obtain ⟨a, l⟩ := q
  match l, h with
  | [x, y], _ => rfl
theorem sorted_setP {a : Addr} {L : List (Addr × List Int)} {es : Array (Int × Value)} {ep : Nat} {t : SetTable} {Q : Value → Shared → Prop} (R : SetTR P w s.heap a L es ep t) (hh : A.handled = none) (hu : A.units + 66 < cLine)
    (hB : ∀ p ∈ L, p.2.length = 2)
    (hQ : ∀ s' p (out : Array Value) (c : Nat) (L' : List (Addr × List Int)), (∀ b o, s.heap.get? b = some o → s'.heap.get? b = some o) → s'.gens = s.gens → s'.os = s.os → s.heap.objs.size ≤ p →
      s'.heap.get? p = some (seqObj "list" out c) → out.toList = L'.map (fun q => Value.ref q.1) → L'.Perm L → L'.Pairwise (fun q r => LtP (prI q) (prI r)) → Q (.ref p) s') :
    wpAny (model P w) A (call (.builtin "sorted") [.ref a]) Q E s := by
  obtain ⟨o, ho, hex, hd⟩ := R.ob
  have hsz := R.size
  have hfew := R.few
  refine Calls.call_function_entry kind_sorted plain_sorted entry_sorted (args_sorted1 _) ?_
  unfold Builtin.«sorted»
  refine wpAny_bind (m := checkCount "sorted" 1 1 _) (wpAny_pure ?_)
  refine wpAny_bind (collect_set (A := A.in1) hh ⟨o, ho, hex.1, hd⟩ R.fits (by unfold scanBound; omega) R.tab.ris R.led fun s1 vs k1 hz g1 o1 pm => ?_)
  have hes : es.toList.map (·.2) = L.map fun q => Value.ref q.1 := by
    rw [R.rows]
    unfold rowsOf
    rw [List.map_map] <;> rfl
  rw [hes] at pm
  have ord : ∀ vs : List Value, (∀ v ∈ vs, ∃ q ∈ L, v = Value.ref q.1) → ∃ L1 : List (Addr × List Int), vs = L1.map (fun q => Value.ref q.1) ∧ ∀ q ∈ L1, q ∈ L := by
    intro vs
    induction vs with
    | nil => intro _; exact ⟨[], rfl, fun q hq => (by cases hq)⟩
    | cons v vs ih =>
      intro hv
      obtain ⟨q, hq, e⟩ := hv v List.mem_cons_self
      obtain ⟨L1, e1, hs⟩ := ih fun u hu => hv u (List.mem_cons_of_mem _ hu)
      refine ⟨q :: L1, by rw [List.map_cons, e, e1], fun r hr => ?_⟩
      rcases List.mem_cons.mp hr with z | z
      · rw [z]; exact hq
      · exact hs r z
  have one : ∀ q ∈ L, ∀ r ∈ L, q.1 = r.1 → q = r := fun q hq r hr e => by
    have a1 := R.tup q hq
    have a2 := R.tup r hr
    rw [e] at a1
    exact Prod.ext e (a1.inj a2)
  have perm_of : ∀ L1 : List (Addr × List Int), (∀ q ∈ L1, q ∈ L) → (L1.map (fun q => Value.ref q.1)).Perm (L.map fun q => Value.ref q.1) → L1.Perm L := by
    intro L1 hs pm1
    have nL : L.Nodup := nodup_of_map R.nd
    have nref : (L.map fun q => Value.ref q.1).Nodup := by
      refine List.pairwise_map.mpr (List.Pairwise.imp_of_mem (fun {q r} hq hr hne e => ?_) nL)
      injection e with e
      exact hne (one q hq r hr e)
    have n1 : L1.Nodup := nodup_of_map (pm1.nodup_iff.mpr nref)
    refine (List.perm_ext_iff_of_nodup n1 nL).mpr fun q => ⟨hs q, fun hq => ?_⟩
    have hm : Value.ref q.1 ∈ L1.map (fun q => Value.ref q.1) := pm1.mem_iff.mpr (List.mem_map.mpr ⟨q, hq, rfl⟩)
    obtain ⟨r, hr, e⟩ := List.mem_map.mp hm
    injection e with e
    rw [← one r (hs r hr) q hq e]
    exact hr
  obtain ⟨L1, rfl, hs1⟩ := ord vs fun v hv => by
    obtain ⟨q, hq, e⟩ := List.mem_map.mp (pm.mem_iff.mp hv)
    exact ⟨q, hq, e.symm⟩
  have p1 := perm_of L1 hs1 pm
  have hl1 : L1.length < 64 := by rw [p1.length_eq]; exact hfew
  refine wpAny_bind (wpAny_newList ?_ (by rw [List.length_map, sizeLine_eq]; omega))
  have hoL : (s1.heap.push (seqObj "list" (L1.map fun q => Value.ref q.1).toArray 0)).get? s1.heap.objs.size = some (seqObj "list" (L1.map fun q => Value.ref q.1).toArray 0) := Heap.get?_push_size _ rfl
  have rd : ∀ q ∈ L1, Reads (s1.heap.push (seqObj "list" (L1.map fun q => Value.ref q.1).toArray 0)) (.ref q.1) (encI q) [] := fun q hq => by
    have hL := hs1 q hq
    obtain ⟨b, items, e, ⟨o2, ho2, hc2, n2, hd2⟩, hi⟩ := tupInts_of (P := P) (w := w) (isT_keep (R.tup q hL) fun b u e => Heap.get?_push_of_some (seqObj "list" (L1.map fun q => Value.ref q.1).toArray 0) (k1 b u e))
    cases e
    rw [encI_eq (hB q hL)]
    exact Reads.tuple ho2 hc2 hd2 (hi.reads _)
  have each : ∀ M : List (Addr × List Int), (∀ q ∈ M, q ∈ L1) → PySem.W.EachIs (fun (v : Value) (q : Addr × List Int) => v = .ref q.1) (M.map fun q => Value.ref q.1) M ∧
      PySem.W.EachIs (fun (v : Value) (q : Addr × List Int) => ∃ as, Reads (s1.heap.push (seqObj "list" (L1.map fun q => Value.ref q.1).toArray 0)) v (encI q) as ∧ s1.heap.objs.size ∉ as) (M.map fun q => Value.ref q.1) M := by
    intro M
    induction M with
    | nil => intro _; exact ⟨.nil, .nil⟩
    | cons q M ih =>
      intro h
      obtain ⟨a, b⟩ := ih fun r hr => h r (List.mem_cons_of_mem _ hr)
      exact ⟨.cons rfl a, .cons ⟨[], rd q (h q List.mem_cons_self), by simp⟩ b⟩
  obtain ⟨ea, eb⟩ := each L1 fun q h => h
  have dep : ∀ q, (encI q).depth ≤ 1 := fun q => by
    unfold encI PyData.depth PyData.depthAll PyData.depthAll PyData.depthAll PyData.depth
    decide
  refine wpAny_bind (wpAny_holding (PySem.W.list_sort_data (s := { s1 with heap := s1.heap.push (seqObj "list" (L1.map fun q => Value.ref q.1).toArray 0) }) (enc := encI) hoL ea eb ?_ ?_ (by rw [sizeLine_eq]; omega) (fun q _ => ?_) fun out _ h2 => ?_))
  · intro d hd d' hd'
    obtain ⟨q, _, rfl⟩ := List.mem_map.mp hd
    obtain ⟨r, _, rfl⟩ := List.mem_map.mp hd'
    rfl
  · refine .inl fun d hd => ?_
    obtain ⟨q, _, rfl⟩ := List.mem_map.mp hd
    exact ⟨_, _, rfl⟩
  · have := dep q
    show A.units + 1 + 1 + (encI q).depth < cLine
    omega
  · obtain ⟨c, hc⟩ := sortedHeap_at (vs := L1.map fun q => Value.ref q.1) (out := out.toArray) hoL
    generalize hS : L1.mergeSort (PySem.W.dataLe false encI) = S at h2
    have eo : out = S.map fun q => Value.ref q.1 := by
      have key : ∀ {out : List Value} {S : List (Addr × List Int)}, PySem.W.EachIs (fun (v : Value) (q : Addr × List Int) => v = .ref q.1) out S → out = S.map fun q => Value.ref q.1 := by
        intro out S h
        induction h with
        | nil => rfl
        | cons r _ ih => rw [List.map_cons, r, ih]
      exact key h2
    have ps : S.Perm L1 := by rw [← hS]; exact List.mergeSort_perm _ _
    have ele : PySem.W.dataLe false encI = fun p q => decide ((prI p).1 < (prI q).1 ∨ ((prI p).1 = (prI q).1 ∧ (prI p).2 ≤ (prI q).2)) := PySem.W.dataLe_ii (fun q => (prI q).1) (fun q => (prI q).2)
    have pw : S.Pairwise (fun q r => LtP (prI q) (prI r)) := by
      have h3 := List.pairwise_mergeSort (le := PySem.W.dataLe false encI) (fun a b c => by
        rw [ele]; simp only [decide_eq_true_eq]; omega) (fun a b => by
        rw [ele]; simp only [Bool.or_eq_true, decide_eq_true_eq]; omega) L1
      rw [hS, ele] at h3
      have nd : S.Pairwise (fun q r => q.2 ≠ r.2) := by
        have : (S.map (·.2)).Nodup := ((ps.trans p1).map (·.2)).nodup_iff.mpr R.nd
        exact List.pairwise_map.mp this
      refine List.Pairwise.imp_of_mem (fun {q r} hq hr h => ?_) (h3.and nd)
      obtain ⟨h4, h5⟩ := h
      have l1 := hB q (hs1 q (ps.mem_iff.mp hq))
      have l2 := hB r (hs1 r (ps.mem_iff.mp hr))
      have h4 := of_decide_eq_true h4
      obtain ⟨aq, lq⟩ := q
      obtain ⟨ar, lr⟩ := r
      match lq, lr, l1, l2 with
      | [x, y], [x', y'], _, _ =>
        have h4 : x < x' ∨ (x = x' ∧ y ≤ y') := h4
        show x < x' ∨ (x = x' ∧ y < y')
        have h5 : ¬ ([x, y] = [x', y']) := h5
        by_cases e : x = x'
        · by_cases e2 : y = y'
          · exact absurd (by rw [e, e2]) h5
          · omega
        · omega
    refine wpAny_pure ⟨_, rfl, hQ _ s1.heap.objs.size out.toArray c S (fun b u e => ?_) g1 o1 hz hc eo (ps.trans p1) pw⟩
    have q := k1 b u e
    have hlt := Heap.lt_size q
    show (sortedHeap (s1.heap.push (seqObj "list" (L1.map fun q => Value.ref q.1).toArray 0)) s1.heap.objs.size _ out.toArray).get? b = some u
    rw [sortedHeap_old (Nat.ne_of_lt hlt) (by rw [size_push']; exact Nat.lt_succ_of_lt hlt)]
    exact Heap.get?_push_of_some _ q
end
def rSortedP2 (K : PySem.W.Frag) (P : Program) (w : World) : List V → Hp → VK → Prop := fun vs H Q => ∃ (a : Addr) (L : List (Addr × List Int)), vs = [V.ref a] ∧ H a = some (SetTO P w a L) ∧ (∀ p ∈ L, SqT K H p.1 (p.2.map V.int)) ∧
  (∀ p ∈ L, p.2.length = 2) ∧
  ∀ (L' : List (Addr × List Int)) (p : Addr), L'.Perm L → L'.Pairwise (fun q r => LtP (prI q) (prI r)) → H p = none → Q (.ref p) (upd H p (.lst (L'.map fun q => V.ref q.1)))
theorem cr_sortedP2 {X : Cx} (hc : X.calm = true) (hu : X.A.units + 66 < cLine) : CallR X (.builtin "sorted") (rSortedP2 X.K X.prog X.w) := by
  intro pins s σ H vs us Q I r h
  obtain ⟨a, L, rfl, ha, hk, hB, q⟩ := h
  have R0 : SetT0 X.prog X.w s.heap a L := (I.hok a _ ha).1
  obtain ⟨es, ep, t, R⟩ := R0.full fun p hp => I.isT (hk p hp)
  rw [Vals.ref1 r]
  refine sorted_setP R (I.ok.hd hc) hu hB fun s' p out c L' k g o hp hg hout pm pw => ?_
  have hfew : L'.length < 64 := by rw [pm.length_eq]; exact R.few
  have hlen : (L'.map fun q => V.ref q.1).length ≤ sizeLine := by rw [List.length_map, sizeLine_eq]; omega
  have hn : H p = none := I.hok.fresh hp
  have hv : Vals (L'.map fun q => V.ref q.1) out.toList := by rw [hout]; exact vals_of_refs L'
  have J : Inv X pins σ (upd H p (.lst (L'.map fun q => V.ref q.1))) { s with heap := s'.heap, gens := s'.gens, drawn := s'.drawn, toks := s'.toks } :=
    I.call (ch := []) (Un.laid k hp hn) (I.hok.laid k hp ⟨hlen, out.toList, c, hv, hg⟩) (by rw [g]; exact I.bare) (fun _ z => nomatch z)
  have e : s' = { s with heap := s'.heap, gens := s'.gens, drawn := s'.drawn, toks := s'.toks } := by
    cases s'
    cases s
    cases o
    rfl
  rw [e]
  exact ⟨.ref p, _, J, rfl, q L' p pm pw hn⟩
end L2
namespace DL
open PySem PySem.Spec PyProof.Rows L2
variable {K : PySem.W.Frag}
/-! ### points -/
abbrev Pt := Int × Int
def pt (p : Pt) : Dat := .tup [.int p.1, .int p.2]
def ptD : Dat → Option Pt
  | .tup [.int x, .int y] => some (x, y)
  | _ => none
def ptsD : List Dat → Option (List Pt)
  | [] => some []
  | d :: ds => match ptD d, ptsD ds with
    | some p, some ps => some (p :: ps)
    | _, _ => none
theorem ptsD_map : ∀ ps : List Pt, ptsD (ps.map pt) = some ps
  | [] => rfl
  | p :: ps => by
    show (match ptD (pt p), ptsD (ps.map pt) with
      | some p, some ps => some (p :: ps)
      | _, _ => none) = _
    rw [ptsD_map ps]; rfl
theorem ptD_of {d : Dat} {p : Pt} (h : ptD d = some p) : d = pt p := by
  unfold ptD at h
  split at h
  · cases h; rfl
  · exact nomatch h
theorem ptsD_of : ∀ {ds : List Dat} {ps : List Pt}, ptsD ds = some ps → ds = ps.map pt
  | [], ps, h => by cases h; rfl
  | d :: ds, ps, h => by
    unfold ptsD at h
    split at h
    · rename_i p qs e1 e2
      cases h
      rw [ptD_of e1, ptsD_of e2]; rfl
    · exact nomatch h
theorem pts_keys {G H : Hp} (s : Same G H) : ∀ {ps : List Pt} {vs : List V}, RdL K G (ps.map pt) vs → ∃ ks : List (Addr × List Int), vs = ks.map (fun q => V.ref q.1) ∧ (∀ q ∈ ks, SqT K H q.1 (q.2.map V.int)) ∧ ks.map prI = ps ∧ (∀ q ∈ ks, q.2.length = 2 ∧ RdD K G (pt (prI q)) (.ref q.1)) ∧ ks.length = ps.length ∧ ∀ q ∈ ks, q.2 = [(prI q).1, (prI q).2]
  | [], vs, h => by
    unfold List.map RdL at h
    subst h
    exact ⟨[], rfl, by simp, rfl, by simp, rfl, by simp⟩
  | p :: ps, vs, h => by
    unfold List.map RdL at h
    obtain ⟨v, r, rfl, h1, h2⟩ := h
    obtain ⟨ks, e, k1, k2, k3, k4, k5⟩ := pts_keys s h2
    have h1' := h1
    unfold pt RdD at h1
    obtain ⟨a, us, rfl, g, r1⟩ := h1
    have hu : us = [V.int p.1, V.int p.2] := by
      have := RdL.toInts (K := K) (ns := [p.1, p.2]) r1
      exact this
    subst hu
    refine ⟨(a, [p.1, p.2]) :: ks, by rw [e]; rfl, fun q hq => ?_, by rw [List.map_cons, k2]; rfl, fun q hq => ?_, by rw [List.length_cons, List.length_cons, k4], fun q hq => ?_⟩
    · rcases List.mem_cons.mp hq with z | z
      · rw [z]; exact SqT.of (s _ _ g)
      · exact k1 q z
    · rcases List.mem_cons.mp hq with z | z
      · rw [z]; exact ⟨rfl, h1'⟩
      · exact k3 q z
    · rcases List.mem_cons.mp hq with z | z
      · rw [z]; rfl
      · exact k5 q z
theorem sqT_mono {H H' : Hp} (s : Same H H') {a : Addr} {xs : List V} (h : SqT K H a xs) : SqT K H' a xs := by
  rcases h with (h | ⟨o, h⟩) | h
  · exact .inl (.inl (s _ _ h))
  · exact .inl (.inr ⟨o, s _ _ h⟩)
  · exact .inr h
theorem pts_rd {G : Hp} : ∀ {L : List (Addr × List Int)}, (∀ q ∈ L, RdD K G (pt (prI q)) (.ref q.1)) → RdL K G ((L.map prI).map pt) (L.map fun q => V.ref q.1)
  | [], _ => RdL.nil
  | q :: L, h => RdL.cons (h q List.mem_cons_self) (pts_rd fun r hr => h r (List.mem_cons_of_mem _ hr))
/-- sorted(set(x)) of fewer than 64 points -/
def dSortedSet (a : DE) : DE := fun ρ κ ε => a ρ (fun x => asL x fun ds => onS (ptsD ds) fun ps => ps.length < 64 ∧ ∀ L : List Pt, L.Pairwise LtP → (∀ p, p ∈ L ↔ p ∈ ps) → κ (.n (L.map pt))) ε
section
variable {X : Cx} {W : WX} {e : Expr} {d : DE} {p p2 pos pos2 : Pos}
theorem me_sortedSet {k : Nat} (C : Cn X W k) (hm : X.mg "sorted" = none) (hm2 : X.mg "set" = none) (h : ME X W e d) (hg : Gl X "sorted" := by rfl) (hg2 : Gl X "set" := by rfl)
    (he : starEach [e] X.env = (false, eval e X.env) :: starEach [] X.env := by rfl) (hpl : (backTo pos2 (starEach [] X.env)).any (·.1) = false := by rfl)
    (he2 : starEach [.Call (.Name "set" p2) [e] [] pos2] X.env = (false, eval (.Call (.Name "set" p2) [e] [] pos2) X.env) :: starEach [] X.env := by rfl) (hpl2 : (backTo pos (starEach [] X.env)).any (·.1) = false := by rfl) :
    ME X W (.Call (.Name "sorted" p) [.Call (.Name "set" p2) [e] [] pos2] [] pos) (dSortedSet d) := by
  obtain ⟨t, pa, oa⟩ := h
  refine ⟨_, pe_callB (cr_sortedP2 C.hc (Room.u66 C.hr)) hg hm (by decide +kernel) (pa_cons (pe_callTy (cr_setOfT C.hc C.hr.units) hg2 hm2 (by decide +kernel) (pa_cons pa pa_nil he) (by decide) (by decide) he hpl) pa_nil he2) (by decide) (by decide) he2 hpl2, fun H0 G0 G ρ σ H Q κ ε R h hq hx => ?_⟩
  refine oa H0 G0 G ρ σ H _ _ ε R h (fun v H1 G1 r x1 h1 k1 => ?_) hx
  obtain ⟨ds, ed, k2⟩ := asL.of k1
  obtain ⟨ps, ep, hlt, k3⟩ := onS.of k2
  rw [ptsD_of ep] at ed
  have R1 := R.on x1
  obtain ⟨l, vs, rfl, b, c⟩ := h1.lst x1.s R1.ext.h ed
  obtain ⟨ks, rfl, g1, g2, g3, g4, g5⟩ := pts_keys x1.s c
  refine ⟨l, ks, rfl, b, g1, by omega, fun a L na hL hks => ?_⟩
  have x2 := Ext.newH (o := SetTO X.prog X.w a L) x1.s na
  refine ⟨a, L, rfl, upd_same, fun q hq => ?_, fun q hq => (g3 q (hL q hq)).1, fun L' p pm pw np => ?_⟩
  · exact sqT_mono x2.h (g1 q (hL q hq))
  · have x3 := Ext.newH (o := HO.lst (L'.map fun q => V.ref q.1)) x2.s np
    have hL' : ∀ q ∈ L', q ∈ ks := fun q hq => hL q (pm.mem_iff.mp hq)
    have x23 := (x1.trans x2).trans x3
    refine hq _ _ G1 (.n ((L'.map prI).map pt)) x23 ⟨p, _, rfl, upd_same, pts_rd fun q hq => (g3 q (hL' q hq)).2, (x1.trans x2).h.free np, x2.s.free np⟩ (k3 _ (List.pairwise_map.mpr pw) fun z => ⟨fun hz => ?_, fun hz => ?_⟩)
    · obtain ⟨q, hq, rfl⟩ := List.mem_map.mp hz
      rw [← g2]
      exact List.mem_map.mpr ⟨q, hL' q hq, rfl⟩
    · rw [← g2] at hz
      obtain ⟨q, hq, rfl⟩ := List.mem_map.mp hz
      have := hks q hq
      obtain ⟨r, hr, er⟩ := List.mem_map.mp this
      refine List.mem_map.mpr ⟨r, pm.mem_iff.mpr hr, ?_⟩
      unfold prI
      rw [er]
end
end DL
namespace RT
open PySem PySem.Spec PyProof.Rows L2
section
variable {prog : Program} {w : World} {A : Around} {E : Value → Shared → Prop} {s : Shared}
theorem call_list_rev {it l : Addr} {items : Array Value} {Q : Value → Shared → Prop} (hh : A.handled = none) (hit : s.heap.IsRevIter it l ((items.size : Int) - 1)) (hl : s.heap.IsList l items) (hne : l ≠ it) (hn : items.size ≤ sizeLine)
    (hQ : ∀ (h' : Heap) (tk : Nat) (acc : Array Value) (c : Nat), (∀ b o, b ≠ it → s.heap.get? b = some o → h'.get? b = some o) → h'.get? s.heap.objs.size = some (seqObj "list" acc c) → ItemsOf (fun i v => items[items.size - 1 - i]? = some v) acc items.size →
      Q (.ref s.heap.objs.size) { s with heap := h', toks := tk }) :
    wpAny (model prog w) A (call (.type "list") [.ref it]) Q E s := by
  obtain ⟨oi, hoi, _⟩ := id hit
  obtain ⟨ol, hol, _⟩ := id hl
  have hSi : s.heap.objs.size ≠ it := Nat.ne_of_gt (Heap.lt_size hoi)
  have hSl : s.heap.objs.size ≠ l := Nat.ne_of_gt (Heap.lt_size hol)
  have hSf : s.heap.objs.size ∉ [it, l] := by simp only [List.mem_cons, List.not_mem_nil, or_false, not_or]; exact ⟨hSi, hSl⟩
  refine callType_codes (Q₁ := fun obj s₁ => obj = .ref s.heap.objs.size ∧ s₁ = { s with heap := s.heap.push { cls := .type "list", data := .seq #[] } }) F.called_list (F.typeCall_list_1 _) F.entry_list_init
    (code_list_new _ ⟨rfl, rfl⟩) fun obj s₁ h₁ => ?_
  obtain ⟨rfl, rfl⟩ := h₁
  have hS : (s.heap.push { cls := .type "list", data := .seq #[] }).get? s.heap.objs.size = some { cls := .type "list", data := .seq #[] } := Heap.get?_push_size _ rfl
  refine ⟨⟨_, hS, rfl⟩, F.args_list_init_2 _ _, ?_⟩
  show wpAny _ A.in1.in1 (do let old ← Builtin.List.listItems (.ref s.heap.objs.size); Builtin.List.listUpdate (.ref s.heap.objs.size) (fun _ => #[]); letGo old.toList.reverse; Builtin.List.listExtendWith (.ref s.heap.objs.size) (.ref it) .none) _ _ _
  refine wpAny_bind ?_
  unfold Builtin.List.listItems
  refine wpAny_bind (wpAny_seqItems hS rfl (wpAny_pure ?_))
  show wpAny _ A.in1.in1 (updateSeq s.heap.objs.size (fun _ => #[]) >>= fun _ => letGo (#[] : Array Value).toList.reverse >>= fun _ => Builtin.List.listExtendWith (.ref s.heap.objs.size) (.ref it) .none) _ _ _
  refine wpAny_bind (wpAny_updateSeq hS rfl ?_)
  have hS2 := Heap.get?_update_self (Obj.mapSeq (fun _ => (#[] : Array Value))) hS rfl
  refine wpAny_bind (wpAny_letGo ?_)
  unfold Builtin.List.listExtendWith
  have k1 : ∀ b o, s.heap.get? b = some o → (s.heap.push { cls := .type "list", data := .seq #[] }).get? b = some o := fun b o e => Heap.get?_push_of_some _ e
  have k2 : ∀ b o, s.heap.get? b = some o → ((s.heap.push { cls := .type "list", data := .seq #[] }).update s.heap.objs.size (Obj.mapSeq (fun _ => (#[] : Array Value)))).get? b = some o := fun b o e =>
    (Heap.get?_update_other _ _ (Ne.symm (Nat.ne_of_lt (Heap.lt_size e)))).trans (k1 b o e)
  generalize hh2 : (s.heap.push { cls := .type "list", data := .seq #[] }).update s.heap.objs.size (Obj.mapSeq (fun _ => (#[] : Array Value))) = h2 at hS2 k2
  have hit1 : h2.IsRevIter it l ((items.size : Int) - 1) := hit.at fun o e => k2 _ _ e
  have hl1 : h2.IsList l items := hl.at fun o e => k2 _ _ e
  have hT : ({ s with heap := h2 } : Shared).TypeIs (.ref it) "list_reverseiterator" := Heap.IsRevIter.typeIs (s := { s with heap := h2 }) hit1
  have h1 : Builtin.List.listSameRef (.ref s.heap.objs.size) (.ref it) = false := by simp [Builtin.List.listSameRef, hSi]
  have W := (Walks.listRev (prog := prog) (w := w) (A := A.in1.in1) hh it l hne items).toS
  refine wpAny_bind (wpAny_typeOf hT ?_)
  rw [if_neg (by rw [h1]; decide)]
  refine wpAny_bind (wpAny_pyIter_revIter (s := { s with heap := h2 }) hit1 ?_)
  refine wpAny_bind (wpAny_holding ?_)
  unfold Builtin.List.listLengthHint
  refine wpAny_bind (wpAny_specialOf hT nolen_lri ?_)
  show wpAny _ A.in1.in1 (specialOf (Value.ref it) (Str.ofString "__length_hint__") >>= _) _ _ _
  refine wpAny_bind (wpAny_specialOf hT hint_lri ?_)
  generalize hid : ("list_reverseiterator.__length_hint__" : String) = id0
  wp_delta
  rw [show splitId id0 = some ("list_reverseiterator", "__length_hint__") from by subst hid; decide +kernel]
  subst hid
  refine wpAny_bind (wpAny_isInstance (b := true) hT (by rw [isSubtype_type]; kernel_rfl) ?_)
  refine wpAny_pure ?_
  rw [if_neg (by decide)]
  have e0 : ((items.size : Nat) : Int) - 1 - ((0 : Nat) : Int) = (items.size : Int) - 1 := by omega
  refine wpAny_pure ⟨plainId_quiet F.plain_extend_loop _, codeAny_extend_loopS W hn _ hSf _ items.size 0 _ _ _ rfl (Nat.zero_le _) ⟨Nat.zero_le _, by rw [e0]; exact hit1, hl1⟩ hS2 (ItemsOf.nil _) fun s' acc' c' hm hS' hacc => ?_⟩
  rw [Moved.eq_with hm]
  refine ⟨rfl, hQ s'.heap s'.toks acc' c' (fun b o hb e => hm.heap b o (fun hmem => ?_) (k2 _ _ e)) hS' hacc⟩
  rcases List.mem_cons.mp hmem with e' | hmem
  · exact absurd (Heap.lt_size e) (by rw [e']; exact Nat.lt_irrefl _)
  · exact hb (List.mem_singleton.mp hmem)
end
end RT
namespace DL
open PySem PySem.Spec PyProof.Rows L2
variable {K : PySem.W.Frag}

/-! ### list(reversed(x)) -/
def tListRev (K : PySem.W.Frag) (te : TE) : TE := fun σ H Q => te σ H fun v H1 => ∃ (a : Addr) (xs : List V), v = .ref a ∧ SqL K H1 a xs ∧ ∀ q, H1 q = none → Q (.ref q) (upd H1 q (.lst xs.reverse))
def dRev (a : DE) : DE := fun ρ κ ε => a ρ (fun x => asL x fun ds => κ (.n ds.reverse)) ε
section
variable {X : Cx} {W : WX} {e : Expr} {te : TE} {d : DE} {p p2 pos pos2 : Pos}
theorem pe_listRev (hc : X.calm = true) (hg : Gl X "list") (hm : X.mg "list" = none) (hg2 : Gl X "reversed") (hm2 : X.mg "reversed" = none) (he : PE X e te)
    (hs : starEach [e] X.env = (false, eval e X.env) :: starEach [] X.env := by rfl)
    (hs2 : starEach [.Call (.Name "reversed" p2) [e] [] pos2] X.env = (false, eval (.Call (.Name "reversed" p2) [e] [] pos2) X.env) :: starEach [] X.env := by rfl) :
    PE X (.Call (.Name "list" p) [.Call (.Name "reversed" p2) [e] [] pos2] [] pos) (tListRev X.K te) := by
  refine ⟨fun pins s σ H Q I h => ?_⟩
  refine Call_ (ld_blt I hg hm boot_list (PyProof.Rows.callWith_type1 (args_cons (Call_ (ld_blt I hg2 hm2 PyProof.Rows.boot_reversed (PyProof.Rows.callWith_type1 (args_cons (thn (he.run pins s σ H _ I h) fun u s1 ⟨v, H1, I1, r1, q1⟩ => args_nil ?_) hs) hs rfl))) hs2) hs2 rfl))
  obtain ⟨a, xs, ev, hq, q⟩ := q1
  subst ev
  obtain rfl : u = Value.ref a := r1
  obtain ⟨its, rv, p', hz⟩ := I1.list hq
  refine call_reversed_list p'.isList (args_nil ?_)
  have hl := p'.isList
  obtain ⟨ol, hol, _⟩ := id hl
  have hne : a ≠ s1.heap.objs.size := Nat.ne_of_lt (Heap.lt_size hol)
  have hn : its.toArray.size ≤ sizeLine := by rw [List.size_toArray, ← rv.length]; exact hz
  refine RT.call_list_rev (s := { s1 with heap := s1.heap.push (revObj a ((its.toArray.size : Int) - 1)) }) (I1.ok.hd hc) ⟨_, Heap.get?_push_size _ rfl, rfl, rfl⟩ (hl.push _) hne hn fun h' tk acc c hk hD hi => ?_
  have hsz : (s1.heap.push (revObj a ((its.toArray.size : Int) - 1))).objs.size = s1.heap.objs.size + 1 := size_push' _ _
  have hD : h'.get? (s1.heap.push (revObj a ((its.toArray.size : Int) - 1))).objs.size = some (seqObj "list" acc c) := hD
  rw [hsz] at hD
  show EP X pins σ Q (.ref (s1.heap.push (revObj a ((its.toArray.size : Int) - 1))).objs.size) _
  rw [hsz]
  refine ⟨.ref _, upd H1 (s1.heap.objs.size + 1) (.lst xs.reverse), I1.laid (t' := tk) (fun b u e => hk b u (Nat.ne_of_lt (Heap.lt_size e)) (Heap.get?_push_of_some _ e)) (Nat.le_succ _) ⟨by rw [List.length_reverse]; exact hz, acc.toList, c, RT.vals_rev rv hi, ?_⟩, rfl, q _ (I1.hok.fresh (Nat.le_succ _))⟩
  rw [Array.toArray_toList]
  exact hD
theorem me_listRev {k : Nat} (C : Cn X W k) (hm : X.mg "list" = none) (hm2 : X.mg "reversed" = none) (h : ME X W e d) (hg : Gl X "list" := by rfl) (hg2 : Gl X "reversed" := by rfl)
    (hs : starEach [e] X.env = (false, eval e X.env) :: starEach [] X.env := by rfl)
    (hs2 : starEach [.Call (.Name "reversed" p2) [e] [] pos2] X.env = (false, eval (.Call (.Name "reversed" p2) [e] [] pos2) X.env) :: starEach [] X.env := by rfl) :
    ME X W (.Call (.Name "list" p) [.Call (.Name "reversed" p2) [e] [] pos2] [] pos) (dRev d) := by
  obtain ⟨t, pa, oa⟩ := h
  refine ⟨_, pe_listRev C.hc hg hm hg2 hm2 pa hs hs2, fun H0 G0 G ρ σ H Q κ ε R h hq hx => ?_⟩
  refine oa H0 G0 G ρ σ H _ _ ε R h (fun v H1 G1 r x1 h1 k1 => ?_) hx
  obtain ⟨ds, ed, k2⟩ := asL.of k1
  have R1 := R.on x1
  obtain ⟨l, vs, rfl, b, c⟩ := h1.lst x1.s R1.ext.h ed
  refine ⟨l, vs, rfl, b, fun q nq => ?_⟩
  have y := Ext.newH (o := HO.lst vs.reverse) x1.s nq
  exact hq _ _ _ (.n ds.reverse) (x1.trans y) ⟨q, _, rfl, upd_same, c.reverse, x1.h.free nq, x1.s.free nq⟩ k2
end

/-! ### for over reversed(list) -/
def iRev (c : Bool) (a : DE) : DI := fun ρ κ ε => a ρ (fun r => stays c r = true ∧ asL r fun ds => κ ds.reverse) ε
theorem itOk_rev {K : PySem.W.Frag} {a : Addr} {vs : List V} {ds : List Dat} {B G : Hp} (h : ∀ H, Same B H → Same G H → SqL K H a vs) (r : RdL K G ds vs) : ItOk K (Itv K a vs.length) ds.reverse B G := by
  have hl := r.len
  refine ⟨fun i H b g hi => ?_, fun i H b g hi => by rw [List.length_reverse] at hi; show vs.length ≤ i; omega, fun i H x H' Gc d b g gc hd hy => ?_⟩
  · rw [List.length_reverse] at hi
    exact ⟨by omega, vs, _, h H b g, List.getElem?_eq_getElem (by omega : vs.length - 1 - i < vs.length)⟩
  · obtain ⟨rfl, q⟩ := hy
    have hi : i < ds.length := by
      by_cases hi : i < ds.length
      · exact hi
      · rw [List.getElem?_eq_none (by rw [List.length_reverse]; omega)] at hd; exact nomatch hd
    rw [List.getElem?_reverse hi] at hd
    obtain ⟨v, e1, e2⟩ := r.get hd
    have e := q vs (h _ b (g.trans gc))
    rw [← hl, e1] at e
    cases e
    exact ⟨Gc, Ext.refl gc, RdD.mono g _ _ e2⟩
section
variable {X : Cx} {W : WX} {tg e : Expr} {d : DE} {c : Bool} {p pos : Pos}
theorem mi_rev (hm : X.mg "reversed" = none) (h : ME X W e d) (hg : Gl X "reversed" := by rfl) (hs : starEach [e] X.env = (false, eval e X.env) :: starEach [] X.env := by rfl) : MI X W c tg (.Call (.Name "reversed" p) [e] [] pos) (iRev c d) := by
  obtain ⟨t, pa, oa⟩ := h
  refine ⟨_, RT.pi_revA hg hm pa hs, fun H0 G0 G ρ σ H R κ ε RR h hq hx => ?_⟩
  refine oa H0 G0 G ρ σ H _ _ ε RR h (fun v H1 G1 r x1 hr k => ?_) hx
  obtain ⟨ks, k⟩ := k
  obtain ⟨ds, ed, k⟩ := asL.of k
  have R1 := RR.on x1
  obtain ⟨l, vs, rfl, b1, c1⟩ := hr.lst x1.s R1.ext.h ed
  refine ⟨l, vs, rfl, .inl ⟨b1, ?_⟩⟩
  by_cases hcc : c = true
  · refine hq _ H1 G1 ds.reverse x1 ?_ k
    rw [if_pos hcc]
    exact itOk_rev (vs := vs) (fun H b g => rd_mono b b1) c1
  · cases r with
    | v d0 =>
      have ed : d0 = .lst ds := ed
      subst ed
      have hr : RdD X.K G1 (.lst ds) (.ref l) := hr
      unfold RdD at hr
      obtain ⟨l', vs', e1, b2, c2⟩ := hr
      cases e1
      have el : vs'.length = vs.length := by rw [← c2.len, c1.len]
      exact hq _ H1 G1 ds.reverse x1 (el ▸ itOk_rev (vs := vs') (fun H b g => rd_mono g b2) c2) k
    | n es =>
      injection ed with ed; subst ed
      obtain ⟨l', vs', e1, b2, c2, n2, g2⟩ := hr
      cases e1
      have el : vs'.length = vs.length := by rw [← c2.len, c1.len]
      obtain ⟨y, s⟩ := x1.put n2 b2 g2
      exact hq _ H1 _ es.reverse y (el ▸ itOk_rev (vs := vs') (fun H b g => sq_of (g _ _ upd_same)) (c2.mono s)) k
    | b es =>
      injection ed with ed; subst ed
      obtain ⟨l', vs', e1, b2, c2⟩ := hr
      cases e1
      have el : vs'.length = vs.length := by rw [← c2.len, c1.len]
      refine hq _ H1 G1 es.reverse x1 ?_ k
      rw [if_neg hcc]
      exact (el ▸ itOk_rev (vs := vs') (fun H b g => rd_mono b b2) c2)
    | o es =>
      cases c with
      | true => exact absurd rfl hcc
      | false => exact nomatch ks
end

/-! ### tuples: +, slices, tuple(x); list * n -/
def kCatT : Rv → Rv → (Rv → Prop) → (Str → Prop) → Prop := fun x y κ _ => match x, y with
  | .v (.tup ds), .v (.tup es) => Nat.ble (ds.length + es.length) 100000 = true ∧ κ (.v (.tup (ds ++ es)))
  | _, _ => False
theorem op2_catT : Op2 K (rCatA K) kCatT := by
  intro H0 G Hs H x y v u Q κ ε s s0 sh rx ry h q
  unfold kCatT at h
  split at h
  · rename_i ds es
    obtain ⟨hz, hk⟩ := h
    have rx0 : RdD K G (.tup ds) v := rx
    have ry0 : RdD K G (.tup es) u := ry
    obtain ⟨a, vs, rfl, b1, c1⟩ := rvT s rx
    obtain ⟨b, ws, rfl, b2, c2⟩ := rvT s ry
    refine ⟨a, b, vs, ws, rfl, rfl, b1, b2, by rw [← c1.len, ← c2.len]; exact small_of hz, fun e => ?_, fun _ e => ?_, fun _ _ p np => ?_⟩
    · have : ds = [] := List.eq_nil_of_length_eq_zero (by rw [c1.len, e]; rfl)
      subst this
      exact q _ H G (.v (.tup es)) (Ext.refl s) ry0 hk
    · have : es = [] := List.eq_nil_of_length_eq_zero (by rw [c2.len, e]; rfl)
      subst this
      rw [List.append_nil] at hk
      exact q _ H G (.v (.tup ds)) (Ext.refl s) rx0 hk
    · have y := Ext.newG (o := HO.tup (vs ++ ws)) s np
      refine q _ _ _ (.v (.tup (ds ++ es))) y ?_ hk
      show RdD K _ _ _
      unfold RdD
      exact ⟨p, _, rfl, upd_same, (c1.append c2).mono y.g⟩
  · exact h.elim
def dCatT := dBin kCatT
section
variable {X : Cx} {W : WX} {a b : Expr} {lo hi : Option Expr} {da db : DE} {dl dh : DO} {pos p2 : Pos}
theorem me_catT (ha : ME X W a da) (hb : ME X W b db) : ME X W (.BinOp a .Add b pos) (dCatT da db) := me_bin op_catA op2_catT ha hb
end
def kTuple : List Rv → (Rv → Prop) → Prop := fun rs κ => match rs with
  | [x] => asQ x fun ds => κ (.v (.tup ds))
  | _ => False
theorem opa_tuple {K : PySem.W.Frag} : OpA K (fun xs H Q => ∃ p ys, xs = [.ref p] ∧ ((SqL K H p ys ∧ ∀ l, H l = none → Q (.ref l) (upd H l (.tup ys))) ∨ (SqT K H p ys ∧ Q (.ref p) H))) kTuple := by
  intro H0 G Hs H rs vs Q κ s s0 sh h k q
  unfold kTuple at k
  split at k
  · obtain ⟨v, rfl, h1⟩ := rvs1 h
    obtain ⟨ds, e, k1⟩ := asQ.of k
    rcases e with e | e
    · obtain ⟨l, us, rfl, b, c⟩ := h1.lst s s0 e
      refine ⟨l, us, rfl, .inl ⟨b, fun p np => ?_⟩⟩
      have y := Ext.newG (o := HO.tup us) s np
      refine q _ _ _ (.v (.tup ds)) y ?_ k1
      show RdD K _ _ _
      unfold RdD
      exact ⟨p, _, rfl, upd_same, c.mono y.g⟩
    · rename_i x
      cases x with
      | v d0 =>
        have e : d0 = .tup ds := e
        subst e
        have h10 : RdD K G (.tup ds) v := h1
        obtain ⟨l, us, rfl, b, c⟩ := rvT s h1
        exact ⟨l, us, rfl, .inr ⟨b, q _ H G (.v (.tup ds)) (Ext.refl s) h10 k1⟩⟩
      | n _ => exact nomatch e
      | b _ => exact nomatch e
      | o _ => exact nomatch e
  · exact k.elim
/-- [..] * n, the list made here -/
def kRep : Rv → Rv → (Rv → Prop) → (Str → Prop) → Prop := fun x y κ _ => match x with
  | .n ds => asI y fun k => (-(2 ^ 63) ≤ k ∧ k < 2 ^ 63 ∧ ds.length * k.toNat ≤ sizeLine) ∧ κ (.n (List.replicate k.toNat ds).flatten)
  | _ => False
theorem RdL.rep {G : Hp} {ds : List Dat} {vs : List V} (h : RdL K G ds vs) : ∀ k : Nat, RdL K G (List.replicate k ds).flatten (List.replicate k vs).flatten
  | 0 => RdL.nil
  | k + 1 => by
    rw [List.replicate_succ, List.replicate_succ, List.flatten_cons, List.flatten_cons]
    exact h.append (RdL.rep h k)
theorem op2_rep : Op2 K rRep kRep := by
  intro H0 G Hs H x y v u Q κ ε s s0 sh rx ry h q
  unfold kRep at h
  split at h
  · rename_i ds
    obtain ⟨k, rfl, ⟨z1, z2, z3⟩, hk⟩ := asI.of h
    obtain ⟨l, vs, rfl, b, c, _⟩ := rx
    refine ⟨l, k, vs, rfl, rvI ry, b, z1, z2, by rw [← c.len]; exact z3, fun p np => ?_⟩
    exact q _ _ _ (.n _) (Ext.newH s np) ⟨p, _, rfl, upd_same, c.rep _, np, s.free np⟩ hk
  · exact h.elim
def dRep := dBin kRep
section
variable {X : Cx} {W : WX} {a b e : Expr} {es : List Expr} {da' : DA} {da db : DE} {p pos : Pos}
theorem me_rep (ha : ME X W a da) (hb : ME X W b db) : ME X W (.BinOp a .Mult b pos) (dRep da db) := me_bin op_rep op2_rep ha hb
theorem me_tuple (hm : X.mg "tuple" = none) (ha : MA X W (e :: es) da') (hg : Gl X "tuple" := by rfl) (he : starEach (e :: es) X.env = (false, eval e X.env) :: starEach es X.env := by rfl) (hpl : (backTo pos (starEach es X.env)).any (·.1) = false := by rfl) : ME X W (.Call (.Name "tuple" p) (e :: es) [] pos) (dB kTuple da') :=
  me_Ty call_tuple_of opa_tuple (by decide +kernel) hm ha hg (by decide) (by decide) he hpl
end
end DL
namespace DL
open PySem PySem.Spec PyProof.Rows L2
variable {K : PySem.W.Frag}
theorem Cn.tr {X : Cx} {W W' : WX} {k : Nat} (C : Cn X W' k) {pn : List (Addr × Obj)} {xe : Value → Shared → Prop} (tk : Takes (X.tr pn xe) W) (po : PassesOwn (model X.prog X.w) X.A X.env xe) : Cn (X.tr pn xe) W k := ⟨tk, po, C.hc, C.hr, C.nd⟩
theorem Xm.mk' {mg : MG} {a b : Str} {r : Bool} {C D : Addr} (h1 : mg a = some (.ref C)) (h2 : mg b = some (.ref D)) (h3 : PySem.W.exmOne K (.ref C) (.ref D) = some r) : Xm K mg a b r := ⟨C, D, h1, h2, h3⟩
theorem Xi.mk' {mg : MG} {a b : Str} {r : Bool} {C D : Addr} (h1 : mg a = some (.ref C)) (x : ExcC K C) (h2 : mg b = some (.ref D)) (k : PySem.W.keepIn K (.ref D) = true) (h3 : PySem.W.kitOne K (.ref C) (.ref D) = some r) : Xi K mg a b r := ⟨C, h1, x, .inl ⟨D, h2, k, h3⟩⟩
theorem Xi.mkV {mg : MG} {a : Str} {r : Bool} {C : Addr} (h1 : mg a = some (.ref C)) (x : ExcC K C) (h2 : mg "ValueError" = none) (h3 : PySem.W.kitOne K (.ref C) (.type "ValueError") = some r) : Xi K mg a "ValueError" r := ⟨C, h1, x, .inr ⟨h2, by decide +kernel, rfl, h3⟩⟩
/-! ### x + y of ints, lists, tuples -/
def kPlus : Rv → Rv → (Rv → Prop) → (Str → Prop) → Prop := fun x y κ ε => match x.dat, y.dat with
  | .int i, .int j => κ (.v (.int (i + j)))
  | .lst ds, .lst es => ds.length + es.length ≤ sizeLine ∧ κ (.n (ds ++ es))
  | .tup ds, .tup es => Nat.ble (ds.length + es.length) 100000 = true ∧ κ (.v (.tup (ds ++ es)))
  | _, _ => False
theorem Rv.int_of {x : Rv} {i : Int} (e : x.dat = .int i) : x = .v (.int i) := by
  cases x with
  | v d => have e : d = .int i := e; rw [e]
  | n _ => exact nomatch e
  | b _ => exact nomatch e
  | o _ => exact nomatch e
theorem op2_or {r r' : R2} {k1 k2 k : Rv → Rv → (Rv → Prop) → (Str → Prop) → Prop} (h1 : Op2 K r k1) (h2 : Op2 K r' k2) (h : ∀ x y κ ε, k x y κ ε → k1 x y κ ε ∨ k2 x y κ ε) : Op2 K (fun x y H Q => r x y H Q ∨ r' x y H Q) k := by
  intro H0 G Hs H x y v u Q κ ε s s0 sh rx ry hk q
  rcases h x y κ ε hk with hk | hk
  · exact .inl (h1 H0 G Hs H x y v u Q κ ε s s0 sh rx ry hk q)
  · exact .inr (h2 H0 G Hs H x y v u Q κ ε s s0 sh rx ry hk q)
theorem op2_plus : Op2 K (fun x y H Q => rI0 (fun i j => .int (i + j)) x y H Q ∨ (rCatR K x y H Q ∨ rCatA K x y H Q)) kPlus := by
  refine op2_or (k1 := kI0 fun i j => .int (i + j)) (k2 := fun x y κ ε => kCat x y κ ε ∨ kCatT x y κ ε) (op2_I0 rdI) (op2_or op2_cat op2_catT fun x y κ ε h => h) fun x y κ ε h => ?_
  unfold kPlus at h
  split at h
  · rename_i i j e1 e2
    obtain rfl := Rv.int_of e1
    obtain rfl := Rv.int_of e2
    exact .inl h
  · rename_i ds es e1 e2
    refine .inr (.inl ?_)
    unfold kCat asL
    rw [e1, e2]
    exact h
  · rename_i ds es e1 e2
    obtain rfl := Rv.tup_of e1
    obtain rfl := Rv.tup_of e2
    exact .inr (.inr h)
  · exact h.elim
def dPlus := dBin kPlus
theorem me_plus {X : Cx} {W : WX} {a b : Expr} {da db : DE} {pos : Pos} (ha : ME X W a da) (hb : ME X W b db) : ME X W (.BinOp a .Add b pos) (dPlus da db) := me_bin (op_add.or (op_catR.or op_catA)) op2_plus ha hb
end DL
namespace DL
open PySem PySem.Spec PyProof.Rows L2
variable {K : PySem.W.Frag}
/-! ### an int in a tuple of ints -/
def kInT (neg : Bool) : Rv → Rv → (Rv → Prop) → (Str → Prop) → Prop := fun x y κ _ => asI x fun i => match y with
  | .v (.tup ds) => onS (intsD ds) fun ns => κ (.v (.bl (if neg = true then !decide (i ∈ ns) else decide (i ∈ ns))))
  | _ => False
theorem flat_ints : ∀ ns : List Int, (ns.map V.int).all flatV = true
  | [] => rfl
  | n :: ns => by rw [List.map_cons, List.all_cons, flat_ints ns]; rfl
theorem inV_ints (i : Int) : ∀ ns : List Int, inV (.int i) (ns.map V.int) = decide (i ∈ ns)
  | [] => rfl
  | n :: ns => by
    have ih := inV_ints i ns
    unfold inV at ih ⊢
    rw [List.map_cons, List.any_cons, ih]
    have : eqV (V.int n) (V.int i) = decide (i = n) := by
      show (n == i) = _
      by_cases h : i = n
      · subst h; simp
      · have : ¬ n = i := fun z => h z.symm
        simp [h, this]
    rw [this]
    by_cases h : i = n <;> simp [h]
theorem op2_inT {neg : Bool} : Op2 K (rIn K neg) (kInT neg) := by
  intro H0 G Hs H x y v u Q κ ε s s0 sh rx ry h q
  obtain ⟨i, rfl, h1⟩ := asI.of h
  split at h1
  · rename_i ds
    obtain ⟨ns, e, h2⟩ := onS.of h1
    obtain ⟨a, vs, rfl, b, c⟩ := rvT s ry
    rw [intsD_of e] at c
    rw [c.toInts] at b
    rw [rvI rx]
    refine ⟨a, _, rfl, .inr b, rfl, flat_ints ns, ?_⟩
    rw [inV_ints]
    exact q _ H G (.v (.bl _)) (Ext.refl s) toB h2
  · exact h1.elim
def dInT (neg : Bool) := dBin (kInT neg)
section
variable {X : Cx} {W : WX} {a b : Expr} {da db : DE} {pos : Pos}
theorem me_inT (ha : ME X W a da) (hb : ME X W b db) (hm : behindInMarks .In b = false := by rfl) : ME X W (.Compare a [.In] [b] pos) (dInT false da db) := me_cmp op_in_seq op2_inT ha hb hm
theorem me_notinT (ha : ME X W a da) (hb : ME X W b db) (hm : behindInMarks .NotIn b = false := by rfl) : ME X W (.Compare a [.NotIn] [b] pos) (dInT true da db) := me_cmp op_notIn_seq op2_inT ha hb hm
theorem mt_inT (ha : ME X W a da) (hb : ME X W b db) (hm : behindInMarks .In b = false := by rfl) : MT X W (.Compare a [.In] [b] pos) (tVal (dInT false da db)) := mt_cmp op_in_seq op2_inT ha hb hm
theorem mt_notinT (ha : ME X W a da) (hb : ME X W b db) (hm : behindInMarks .NotIn b = false := by rfl) : MT X W (.Compare a [.NotIn] [b] pos) (tVal (dInT true da db)) := mt_cmp op_notIn_seq op2_inT ha hb hm
end
/-! ### len(set(x)) of fewer than 64 points -/
def rLenT (K : PySem.W.Frag) (P : Program) (w : World) : List V → Hp → VK → Prop := fun vs H Q => ∃ (a : Addr) (L : List (Addr × List Int)), vs = [V.ref a] ∧ H a = some (SetTO P w a L) ∧ (∀ p ∈ L, SqT K H p.1 (p.2.map V.int)) ∧ ((L.map (·.2)).Nodup → Q (.int L.length) H)
theorem cr_lenT {X : Cx} : CallR X (.builtin "len") (rLenT X.K X.prog X.w) := by
  intro pins s σ H vs us Q I r h
  obtain ⟨a, L, rfl, ha, hk, q⟩ := h
  have R0 : SetT0 X.prog X.w s.heap a L := (I.hok a _ ha).1
  obtain ⟨es, ep, t, R⟩ := R0.full fun p hp => I.isT (hk p hp)
  rw [Vals.ref1 r]
  obtain ⟨o, ho, hex, hd⟩ := R.ob
  have hsz := R.size
  have hfew := R.few
  refine call_len_set ho hex hd R.fits (by omega) ⟨.int L.length, H, I.tok _, ⟨_, by rw [hsz]⟩, q R.nd⟩
def dLenSet (a : DE) : DE := fun ρ κ ε => a ρ (fun x => asL x fun ds => onS (ptsD ds) fun ps => ps.length < 64 ∧ ∀ L : List Pt, L.Nodup → (∀ p, p ∈ L ↔ p ∈ ps) → κ (.v (.int (L.length : Int)))) ε
section
variable {X : Cx} {W : WX} {e : Expr} {d : DE} {p p2 pos pos2 : Pos}
theorem me_lenSet {k : Nat} (C : Cn X W k) (hm : X.mg "len" = none) (hm2 : X.mg "set" = none) (h : ME X W e d) (hg : Gl X "len" := by rfl) (hg2 : Gl X "set" := by rfl)
    (he : starEach [e] X.env = (false, eval e X.env) :: starEach [] X.env := by rfl) (hpl : (backTo pos2 (starEach [] X.env)).any (·.1) = false := by rfl)
    (he2 : starEach [.Call (.Name "set" p2) [e] [] pos2] X.env = (false, eval (.Call (.Name "set" p2) [e] [] pos2) X.env) :: starEach [] X.env := by rfl) (hpl2 : (backTo pos (starEach [] X.env)).any (·.1) = false := by rfl) :
    ME X W (.Call (.Name "len" p) [.Call (.Name "set" p2) [e] [] pos2] [] pos) (dLenSet d) := by
  obtain ⟨t, pa, oa⟩ := h
  refine ⟨_, pe_callB cr_lenT hg hm PySem.boot_len (pa_cons (pe_callTy (cr_setOfT C.hc C.hr.units) hg2 hm2 (by decide +kernel) (pa_cons pa pa_nil he) (by decide) (by decide) he hpl) pa_nil he2) (by decide) (by decide) he2 hpl2, fun H0 G0 G ρ σ H Q κ ε R h hq hx => ?_⟩
  refine oa H0 G0 G ρ σ H _ _ ε R h (fun v H1 G1 r x1 h1 k1 => ?_) hx
  obtain ⟨ds, ed, k2⟩ := asL.of k1
  obtain ⟨ps, ep, hlt, k3⟩ := onS.of k2
  rw [ptsD_of ep] at ed
  have R1 := R.on x1
  obtain ⟨l, vs, rfl, b, c⟩ := h1.lst x1.s R1.ext.h ed
  obtain ⟨ks, rfl, g1, g2, g3, g4, g5⟩ := pts_keys x1.s c
  refine ⟨l, ks, rfl, b, g1, by omega, fun a L na hL hks => ?_⟩
  have x2 := Ext.newH (o := SetTO X.prog X.w a L) x1.s na
  refine ⟨a, L, rfl, upd_same, fun q hq => ?_, fun nd => ?_⟩
  · exact sqT_mono x2.h (g1 q (hL q hq))
  · have key : ∀ q ∈ L, q.2 = [(prI q).1, (prI q).2] := fun q hq => g5 q (hL q hq)
    have nd2 : (L.map prI).Nodup := by
      refine List.pairwise_map.mpr (List.Pairwise.imp_of_mem (fun {q r} hq hr hne e => hne ?_) (List.pairwise_map.mp nd))
      rw [key q hq, key r hr, e]
    have k4 := k3 (L.map prI) nd2 fun z => ⟨fun hz => ?_, fun hz => ?_⟩
    · rw [List.length_map] at k4
      exact hq _ _ G1 (.v (.int _)) (x1.trans x2) toI k4
    · obtain ⟨q, hq, rfl⟩ := List.mem_map.mp hz
      rw [← g2]
      exact List.mem_map.mpr ⟨q, hL q hq, rfl⟩
    · rw [← g2] at hz
      obtain ⟨q, hq, rfl⟩ := List.mem_map.mp hz
      obtain ⟨r, hr, er⟩ := List.mem_map.mp (hks q hq)
      refine List.mem_map.mpr ⟨r, hr, ?_⟩
      unfold prI
      rw [er]
end
end DL
namespace DL
open PySem PySem.Spec PyProof.Rows L2
/-! ### for over an own list that the loop only looks at -/
def sOwnL (k : Nat) (all : List Dat) (g : DG) (t : DT) (a : DS) (κ : DEnds) : List Dat → List Sl → Prop
  | [], ρ => κ.nx ρ
  | d :: ds, ρ => g (.v d) ρ fun ρ1 => ρ1[k]? = some (.ow all) ∧ t ρ1 (fun c => if c = true then a { κ with nx := fun _ => False, ct := fun _ => False, bk := fun _ => False } ρ1 else sOwnL k all g t a κ ds ρ1) (fun nm => κ.ex nm ρ1)
def sForOwn (k : Nat) (g : DG) (t : DT) (a : DS) : DS := fun κ ρ => match ρ[k]? with
  | some (.ow ds) => sOwnL k ds g t a κ ds ρ
  | _ => False
theorem ms_forOwn {X : Cx} {W : WX} {tg c : Expr} {xs : List Stmt} {g : DG} {t : DT} {a : DS} {pos p p2 : Pos} {x : Str} {kk : Nat} {is : List Nat} (C : Cn X W kk) (k : Nat) (hg : MG1 X tg is g) (hc : MT X W c t) (ha : MSs X W xs a) (hk : k ∉ is := by decide)
    (hN : X.N[k]? = some x := by rfl) (hv : Vis X.env.scope x := by first | exact Or.inl rfl | exact Or.inr (Or.inl rfl) | exact Or.inr (Or.inr rfl)) (hd : (x == ("__debug__" : Str)) = false := by decide)
    (hcd : (x == ("__classdict__" : Str)) = false := by decide) (hs : ∀ y, foldedSetIterable (.Name x p) X.env y = pure y := by intro _; rfl) : MS X W (.For tg (.Name x p) [.If c xs [] p2] [] pos) (sForOwn k g t a) := by
  obtain ⟨tg', pg, og⟩ := hg
  obtain ⟨tc, pc, oc⟩ := hc
  obtain ⟨ta, pa, oa⟩ := ha
  refine ⟨_, ps_for C.hp C.hc (pi_seq (pe_var hN hv hd hcd)) pg (pss_one (ps_if pc pa pss_nil)) hs, fun H0 G0 G ρ σ H D κ R h E => ?_⟩
  unfold sForOwn at h
  split at h
  · rename_i ds eo
    obtain ⟨l, vs, e1, e2, e3⟩ := ow_at R eo
    refine ⟨_, e1, l, rfl, .inl ⟨⟨vs, SqL.of e2⟩, ?_⟩⟩
    refine ⟨fun i m σ' H' => ∃ ρ' G', Rel X.K H0 G0 G' ρ' σ' H' ∧ ρ'[k]? = some (.ow ds) ∧ σ'[k]? = some (some (.ref l)) ∧ m = ds.length - i ∧ sOwnL k ds g t a κ (ds.drop i) ρ', ⟨ds.length, ρ, G, R, eo, e1, rfl, by simpa using h⟩, ?_⟩
    rintro i m σ' H' ⟨ρ', G', R', eo', es', rfl, hl⟩
    obtain ⟨l', vs', f1, f2, f3⟩ := ow_at R' eo'
    have : l' = l := by rw [es'] at f1; simpa using f1.symm
    subst this
    have hln := f3.len
    by_cases hlt : i < ds.length
    · have hlt2 : i < vs'.length := by omega
      refine .inr ⟨⟨vs', _, SqL.of f2, List.getElem?_eq_getElem hlt2⟩, fun σ2 H2 => ∃ ρ2 G2, Rel X.K H0 G0 G2 ρ2 σ2 H2 ∧ ρ2[k]? = some (.ow ds) ∧ σ2[k]? = some (some (.ref l')) ∧ sOwnL k ds g t a κ (ds.drop (i + 1)) ρ2, fun σ2 H2 ⟨ρ2, G2, R2, q1, q2, h2⟩ => ⟨ds.length - (i + 1), by omega, ρ2, G2, R2, q1, q2, rfl, h2⟩, fun x H2 hy => ?_⟩
      obtain ⟨rfl, q⟩ := hy
      have hx := q vs' (SqL.of f2)
      have hdd : ds[i]? = some ds[i] := List.getElem?_eq_getElem hlt
      obtain ⟨v, g1, g2⟩ := f3.get hdd
      rw [hx] at g1
      cases g1
      rw [List.drop_eq_getElem_cons hlt] at hl
      refine og H0 G0 G' G' ρ' σ' _ _ (.v ds[i]) x _ _ R' (Ext.refl R'.ext.s) g2 hl fun ρ3 σ3 R3 tch k3 => ?_
      obtain ⟨k4, k5⟩ := k3
      have es3 : σ3[k]? = some (some (.ref l')) := by rw [tch.2 k hk]; exact es'
      refine oc H0 G0 G' ρ3 σ3 _ _ _ _ R3 k5 (fun b H4 G4 x4 hb => ?_) (E.xok R3)
      have R4 := R3.on x4
      by_cases hbb : b = true
      · rw [if_pos hbb] at hb ⊢
        exact oa H0 G0 G4 ρ3 σ3 H4 _ _ R4 hb ⟨fun _ _ _ _ _ z => z.elim, fun _ _ _ _ _ z => z.elim, fun _ _ _ _ _ z => z.elim, E.rt, E.ex⟩
      · rw [if_neg hbb] at hb ⊢
        exact ⟨ρ3, G4, R4, k4, es3, hb⟩
    · refine .inl ⟨⟨vs', SqL.of f2, by omega⟩, ?_⟩
      rw [List.drop_eq_nil_of_le (by omega)] at hl
      exact E.nx ρ' σ' H' G' R' hl
  · exact h.elim
end DL
namespace DL
open PySem PySem.Spec PyProof.Rows L2
/-! ### a dict of written numbers, to be looked at -/
def dicI (kvs : List (Int × Int)) : Dat := .dic (mergeK [] (kvs.map fun kv => ((.inl kv.1 : Key), V.int kv.2)))
def trsI (kvs : List (Int × Int)) : List (TE × TE) := kvs.map fun kv => (tC (.int kv.1), tC (.int kv.2))
theorem pairs_I {σ : L2.St} {H : Hp} : ∀ (kvs : List (Int × Int)) (F : List (V × V) → Hp → Prop), F (kvs.map fun kv => (V.int kv.1, V.int kv.2)) H → tPairs (trsI kvs) σ H F
  | [], F, h => h
  | kv :: kvs, F, h => pairs_I kvs (fun ps H3 => F ((V.int kv.1, V.int kv.2) :: ps) H3) h
theorem me_dic {X : Cx} {W : WX} {pos : Pos} {keys : List (Option Expr)} {values : List Expr} (kvs : List (Int × Int)) (h : PPs X pos keys values (trsI kvs)) (hall : keys.all (·.isSome) = true := by rfl) (hl : keys.length = values.length := by rfl) (h0 : keys ≠ [] := by simp)
    (h15 : keys.length ≤ 15 := by decide) (hk : (kvs.map fun kv => ((.inl kv.1 : Key), V.int kv.2)).length ≤ 15 := by decide) : ME X W (.Dict keys values pos) (dC (dicI kvs)) := by
  refine ⟨_, pe_disp h hall hl h0 h15, fun H0 G0 G ρ σ H Q κ ε R hκ hq hx => ?_⟩
  intro p np
  refine pairs_I kvs _ ⟨upd_same, kvs.map fun kv => ((.inl kv.1 : Key), V.int kv.2), ?_, hk, ?_⟩
  · rw [List.map_map]; rfl
  · rw [upd_upd]
    refine hq _ _ _ (.v (dicI kvs)) (Ext.newG R.ext.s np) ?_ hκ
    show RdD X.K _ (dicI kvs) _
    unfold dicI RdD
    exact ⟨p, rfl, upd_same⟩
theorem me_dic0 {X : Cx} {W : WX} {pos : Pos} : ME X W (.Dict [] [] pos) (dC (dicI [])) := by
  refine ⟨_, pe_dnewK, fun H0 G0 G ρ σ H Q κ ε R hκ hq hx => ?_⟩
  intro p np
  refine hq _ _ _ (.v (dicI [])) (Ext.newG R.ext.s np) ?_ hκ
  show RdD X.K _ (dicI []) _
  unfold dicI RdD
  exact ⟨p, rfl, upd_same⟩
/-! ### the first place of a thing in a list -/
def dIndex (a b : DE) : DE := fun ρ κ ε => a ρ (fun x => b ρ (fun y => asL x fun ds => (shp 64 y.dat = true ∧ shp 64 (.lst ds) = true) ∧ ∃ j : Nat, (∃ z, ds[j]? = some z ∧ eqD z y.dat = true) ∧ (∀ (m : Nat) (z : Dat), m < j → ds[m]? = some z → eqD z y.dat = false) ∧ κ (.v (.int (j : Int)))) ε) ε
end DL
namespace DL
open PySem PySem.Spec PyProof.Rows L2
variable {K : PySem.W.Frag}

/-! ### sizes of numbers -/
/-- of less than k bits -/
@[irreducible] def Bt (k : Nat) (i : Int) : Prop := i.natAbs < 2 ^ k
theorem Bt.def {k : Nat} {i : Int} : Bt k i ↔ i.natAbs < 2 ^ k := by unfold Bt; exact Iff.rfl
theorem Bt.mono {k l : Nat} {i : Int} (h : Bt k i) (hl : k ≤ l) : Bt l i := by
  rw [Bt.def] at h ⊢
  exact Nat.lt_of_lt_of_le h (Nat.pow_le_pow_right (by decide) hl)
theorem Bt.add {k l : Nat} {i j : Int} (h : Bt k i) (h2 : Bt l j) : Bt (max k l + 1) (i + j) := by
  have a := h.mono (Nat.le_max_left k l)
  have b := h2.mono (Nat.le_max_right k l)
  rw [Bt.def] at a b ⊢
  have := Int.natAbs_add_le i j
  rw [Nat.pow_succ]
  omega
theorem Bt.neg {k : Nat} {i : Int} (h : Bt k i) : Bt k (-i) := by
  rw [Bt.def] at h ⊢; rw [Int.natAbs_neg]; exact h
theorem Bt.sub {k l : Nat} {i j : Int} (h : Bt k i) (h2 : Bt l j) : Bt (max k l + 1) (i - j) := by
  rw [Int.sub_eq_add_neg]; exact h.add h2.neg
theorem Bt.mul {k l : Nat} {i j : Int} (h : Bt k i) (h2 : Bt l j) : Bt (k + l) (i * j) := by
  rw [Bt.def] at h h2 ⊢
  rw [Int.natAbs_mul, Nat.pow_add]
  exact Nat.mul_lt_mul'' h h2
theorem Bt.of_lt {k : Nat} {i : Int} (h1 : -(2 ^ k : Nat) < i) (h2 : i < (2 ^ k : Nat)) : Bt k i := by
  rw [Bt.def]; omega
theorem Bt.lt {k : Nat} {i : Int} (h : Bt k i) : -((2 ^ k : Nat) : Int) < i ∧ i < ((2 ^ k : Nat) : Int) := by
  rw [Bt.def] at h; omega
theorem Bt.le_abs {k : Nat} {i j : Int} (h : Bt k j) (hi : i.natAbs ≤ j.natAbs) : Bt k i := by
  rw [Bt.def] at h ⊢; exact Nat.lt_of_le_of_lt hi h
theorem Bt.lit {k : Nat} {i : Int} (h : decide (i.natAbs < 2 ^ k) = true) : Bt k i := by
  rw [Bt.def]; exact of_decide_eq_true h
theorem Bt.emod {k : Nat} {i m : Int} (hm : decide (0 < m) = true) (h : decide (m.natAbs ≤ 2 ^ k) = true) : Bt k (i % m) := by
  have h1 : 0 < m := of_decide_eq_true hm
  have h2 : m.natAbs ≤ 2 ^ k := of_decide_eq_true h
  have a := Int.emod_nonneg i (Int.ne_of_gt h1)
  have b := Int.emod_lt_of_pos i h1
  rw [Bt.def]; omega
theorem Bt.emodm {k : Nat} {i m : Int} (hm : 0 < m) (h : Bt k m) : Bt k (i % m) := by
  have a := Int.emod_nonneg i (Int.ne_of_gt hm)
  have b := Int.emod_lt_of_pos i hm
  exact h.le_abs (by omega)
theorem Bt.ediv {k : Nat} {i m : Int} (h : Bt k i) : Bt k (i / m) := by
  refine h.le_abs ?_
  exact Int.natAbs_ediv_le_natAbs i m
theorem Bt.nat {k n : Nat} (h : n < 2 ^ k) : Bt k (n : Int) := by rw [Bt.def]; simpa using h
theorem Bt.log2 {k : Nat} {i : Int} (h : Bt k i) (hk : 0 < k) : i.natAbs.log2 < k := by
  rw [Bt.def] at h
  exact PySem.Flt.log2_lt_of hk h
theorem mulok {k l : Nat} {i j : Int} (h : Bt k i) (h2 : Bt l j) (hs : decide (0 < k ∧ 0 < l ∧ k + l ≤ 100000000) = true) : MulOk i j := by
  obtain ⟨a, b, c⟩ := of_decide_eq_true hs
  have x := h.log2 a
  have y := h2.log2 b
  unfold MulOk; omega
theorem divp {k : Nat} {i j : Int} (h0 : 0 < j) (h : Bt k j) (hs : decide (0 < k ∧ k ≤ 9000) = true) : DivP i j := by
  obtain ⟨a, b⟩ := of_decide_eq_true hs
  exact ⟨h0, Nat.lt_of_lt_of_le (h.log2 a) b⟩
theorem Bt.any {i : Int} : Bt (i.natAbs.log2 + 1) i := by
  rw [Bt.def]; exact Nat.lt_log2_self
theorem Bt.emod' {i m : Int} (hm : decide (0 < m) = true) : Bt (m.natAbs.log2 + 1) (i % m) := Bt.emodm (of_decide_eq_true hm) Bt.any
theorem Bt.ite {k l : Nat} {c : Prop} [Decidable c] {i j : Int} (h : Bt k i) (h2 : Bt l j) : Bt (max k l) (if c then i else j) := by
  split
  · exact h.mono (Nat.le_max_left _ _)
  · exact h2.mono (Nat.le_max_right _ _)
theorem Bt.le {k l : Nat} {i : Int} (h : Bt k i) (hs : decide (k ≤ l) = true) : Bt l i := h.mono (of_decide_eq_true hs)
theorem divp_lit {i j : Int} (h : decide (0 < j ∧ j.natAbs.log2 < 9000) = true) : DivP i j := by
  have := of_decide_eq_true h
  exact this
theorem modp_lit {i j : Int} (h : decide (0 < j) = true) : ModP i j := by
  have := of_decide_eq_true h
  exact this
theorem cpow_lit {i j : Int} (h : decide (0 ≤ j ∧ j ≤ 1000000 ∧ i.natAbs < 2 ^ 64) = true) : CPow i j := by
  have := of_decide_eq_true h
  exact this

theorem ifd {p : Prop} [Decidable p] {A B : Prop} (h1 : p → A) (h2 : ¬ p → B) : if decide p = true then A else B := by
  by_cases h : p
  · rw [if_pos (decide_eq_true h)]; exact h1 h
  · rw [if_neg (fun z => h (of_decide_eq_true z))]; exact h2 h
theorem ifT {c : Bool} {A B : Prop} (hc : c = true) (h : A) : if c = true then A else B := by rw [if_pos hc]; exact h
theorem ifF {c : Bool} {A B : Prop} (hc : c = false) (h : B) : if c = true then A else B := by rw [hc, if_neg Bool.false_ne_true]; exact h
theorem ifb {c : Bool} {A B : Prop} (h1 : c = true → A) (h2 : c = false → B) : if c = true then A else B := by
  cases c with
  | true => exact ifT rfl (h1 rfl)
  | false => exact ifF rfl (h2 rfl)
theorem ifEq {i j : Int} {A B : Prop} (h1 : i = j → A) (h2 : i ≠ j → B) : if eqD (.int i) (.int j) = true then A else B := by
  unfold eqD
  exact ifb (fun h => h1 (by simpa using h)) (fun h => h2 (by simpa using h))
theorem ifNe {i j : Int} {A B : Prop} (h1 : i ≠ j → A) (h2 : i = j → B) : if (!eqD (.int i) (.int j)) = true then A else B := by
  unfold eqD
  exact ifb (fun h => h1 (by simpa using h)) (fun h => h2 (by simpa using h))
theorem ifNot {c : Bool} {A B : Prop} (h1 : c = false → A) (h2 : c = true → B) : if (!c) = true then A else B := by
  cases c with
  | true => exact ifF rfl (h2 rfl)
  | false => exact ifT rfl (h1 rfl)
theorem eqD_int {i j : Int} : eqD (.int i) (.int j) = (i == j) := by unfold eqD; rfl
/-! ### points -/


structure BP (k : Nat) (p : Pt) : Prop where
  x : Bt k p.1
  y : Bt k p.2
theorem BP.mono {k l : Nat} {p : Pt} (h : BP k p) (hl : k ≤ l) : BP l p := ⟨h.x.mono hl, h.y.mono hl⟩
theorem pt_tup (p : Pt) : pt p = .tup [.int p.1, .int p.2] := rfl
theorem cutD_take (xs : List Dat) (n : Nat) : cutD xs none (some (n : Int)) = xs.take n := by
  unfold cutD
  rw [HT.sIx_none, HT.sIx_nat, List.drop_zero, Nat.sub_zero]
  rcases Nat.le_total n xs.length with h | h
  · rw [Nat.min_eq_left h]
  · rw [Nat.min_eq_right h, List.take_of_length_le (Nat.le_refl _), List.take_of_length_le h]
theorem modp_len {α : Type} {f : α → Dat} {xs : List α} {i : Int} (h : xs ≠ []) : ModP i ((xs.map f).length : Int) := by
  have hl : 0 < xs.length := List.length_pos_iff.mpr h
  rw [List.length_map]
  exact (by omega : 0 < (xs.length : Int))
/-- the script: so many numbers, each of so many bits -/
structure Scr (ns : List Int) : Prop where
  len : ns.length ≤ 63
  bt : ∀ z ∈ ns, Bt 1048577 z
/-- a place of a list of like things -/
theorem at_map {α : Type} {f : α → Dat} {xs : List α} {j : Nat} {x : α} (h : xs[j]? = some x) : atI (xs.map f) (j : Int) = some (f x) := atI_nat (by rw [List.getElem?_map, h]; rfl)
theorem at_mapI {α : Type} {f : α → Dat} {xs : List α} {i : Int} {j : Nat} {x : α} (hi : i = (j : Int)) (h : xs[j]? = some x) : atI (xs.map f) i = some (f x) := by rw [hi]; exact at_map h
theorem at_mod {α : Type} {f : α → Dat} {xs : List α} (i : Int) (h : xs ≠ []) : ∃ x ∈ xs, atI (xs.map f) (i % ((xs.map f).length : Int)) = some (f x) := by
  have hl : 0 < xs.length := List.length_pos_iff.mpr h
  rw [List.length_map]
  have h0 := Int.emod_nonneg i (show (xs.length : Int) ≠ 0 by omega)
  have h1 := Int.emod_lt_of_pos i (show 0 < (xs.length : Int) by omega)
  have hj : (i % (xs.length : Int)).toNat < xs.length := by omega
  exact ⟨xs[(i % (xs.length : Int)).toNat], List.getElem_mem hj, at_mapI (j := (i % (xs.length : Int)).toNat) (by omega) (List.getElem?_eq_getElem hj)⟩
end DL
namespace DL
open PySem PySem.Spec PyProof.Rows L2
variable {K : PySem.W.Frag}

/-! ### loops by an invariant over slots -/
theorem for_at {g : DG} {b : DS} {κ : DEnds} (ds : List Dat) (I : Nat → List Sl → Prop)
    (step : ∀ (i : Nat) (d : Dat) (ρ : List Sl) (N : List Sl → Prop), ds[i]? = some d → I i ρ → (∀ ρ', I (i + 1) ρ' → N ρ') → g (.v d) ρ (fun ρ1 => b { κ with nx := N, ct := N, bk := κ.nx } ρ1)) (fin : ∀ ρ, I ds.length ρ → κ.nx ρ) :
    ∀ (k i : Nat) (ρ : List Sl), i + k = ds.length → I i ρ → sForL g b κ (ds.drop i) ρ
  | 0, i, ρ, hk, h => by
    have e : i = ds.length := by omega
    rw [e, List.drop_length]
    rw [e] at h
    exact fin ρ h
  | k + 1, i, ρ, hk, h => by
    have hi : i < ds.length := by omega
    rw [List.drop_eq_getElem_cons hi]
    exact step i _ ρ _ (List.getElem?_eq_getElem hi) h fun ρ' h' => for_at ds I step fin k (i + 1) ρ' (by omega) h'
theorem for_ind {g : DG} {b : DS} {κ : DEnds} {ds : List Dat} (I : Nat → List Sl → Prop) {ρ : List Sl} (h0 : I 0 ρ)
    (step : ∀ (i : Nat) (d : Dat) (ρ : List Sl) (N : List Sl → Prop), ds[i]? = some d → I i ρ → (∀ ρ', I (i + 1) ρ' → N ρ') → g (.v d) ρ (fun ρ1 => b { κ with nx := N, ct := N, bk := κ.nx } ρ1)) (fin : ∀ ρ, I ds.length ρ → κ.nx ρ) : sForL g b κ ds ρ := by
  have := for_at ds I step fin ds.length 0 ρ (by omega) h0
  simpa using this
/-- over a typed list -/
theorem for_map {α : Type} {f : α → Dat} {g : DG} {b : DS} {κ : DEnds} {xs : List α} (I : Nat → List Sl → Prop) {ρ : List Sl} (h0 : I 0 ρ)
    (step : ∀ (i : Nat) (x : α) (ρ : List Sl) (N : List Sl → Prop), xs[i]? = some x → I i ρ → (∀ ρ', I (i + 1) ρ' → N ρ') → g (.v (f x)) ρ (fun ρ1 => b { κ with nx := N, ct := N, bk := κ.nx } ρ1)) (fin : ∀ ρ, I xs.length ρ → κ.nx ρ) : sForL g b κ (xs.map f) ρ := by
  refine for_ind I h0 (fun i d ρ N hd h hn => ?_) (by rw [List.length_map]; exact fin)
  rw [List.getElem?_map] at hd
  obtain ⟨x, hx, rfl⟩ := Option.map_eq_some_iff.mp hd
  exact step i x ρ N hx h hn
/-- over range(0, n): the turn's number -/
theorem for_rng {lo : Int} {g : DG} {b : DS} {κ : DEnds} {n : Nat} (I : Nat → List Sl → Prop) {ρ : List Sl} (h0 : I 0 ρ)
    (step : ∀ (i : Nat) (ρ : List Sl) (N : List Sl → Prop), i < n → I i ρ → (∀ ρ', I (i + 1) ρ' → N ρ') → g (.v (.int (lo + (i : Int)))) ρ (fun ρ1 => b { κ with nx := N, ct := N, bk := κ.nx } ρ1)) (fin : ∀ ρ, I n ρ → κ.nx ρ) : sForL g b κ (rngD lo n) ρ := by
  refine for_map (f := fun (i : Nat) => Dat.int (lo + (i : Int))) (xs := List.range n) I h0 (fun i x ρ N hx h hn => ?_) (by rw [List.length_range]; exact fin)
  have hi : i < n := by
    by_cases hi : i < n
    · exact hi
    · rw [List.getElem?_eq_none (by rw [List.length_range]; omega)] at hx; exact nomatch hx
  rw [List.getElem?_range hi] at hx
  cases hx
  exact step i ρ N hi h hn
theorem for_rngC {lo c : Int} {g : DG} {b : DS} {κ : DEnds} {n : Nat} (I : Nat → List Sl → Prop) {ρ : List Sl} (h0 : I 0 ρ)
    (step : ∀ (i : Nat) (ρ : List Sl) (N : List Sl → Prop), i < n → I i ρ → (∀ ρ', I (i + 1) ρ' → N ρ') → g (.v (.int (lo + (i : Int) * c))) ρ (fun ρ1 => b { κ with nx := N, ct := N, bk := κ.nx } ρ1)) (fin : ∀ ρ, I n ρ → κ.nx ρ) : sForL g b κ (rngDC lo c n) ρ := by
  refine for_map (f := fun (i : Nat) => Dat.int (lo + (i : Int) * c)) (xs := List.range n) I h0 (fun i x ρ N hx h hn => ?_) (by rw [List.length_range]; exact fin)
  have hi : i < n := by
    by_cases hi : i < n
    · exact hi
    · rw [List.getElem?_eq_none (by rw [List.length_range]; omega)] at hx; exact nomatch hx
  rw [List.getElem?_range hi] at hx
  cases hx
  exact step i ρ N hi h hn
theorem while_at {c : DT} {b : DS} {κ : DEnds} (I : Nat → List Sl → Prop)
    (step : ∀ (n : Nat) (ρ : List Sl) (N : List Sl → Prop), I n ρ → (∀ m ρ', m < n → I m ρ' → N ρ') → c ρ (fun k => if k = true then b { κ with nx := N, ct := N, bk := κ.nx } ρ else κ.nx ρ) (fun nm => κ.ex nm ρ)) :
    ∀ (k n : Nat) (ρ : List Sl), n < k → I n ρ → wIter c b κ k ρ
  | 0, n, ρ, hk, h => (Nat.not_lt_zero _ hk).elim
  | k + 1, n, ρ, hk, h => step n ρ _ h fun m ρ' hm h' => while_at I step k m ρ' (by omega) h'
theorem while_ind {c : DT} {b : DS} {κ : DEnds} (I : Nat → List Sl → Prop) (n : Nat) {ρ : List Sl} (h0 : I n ρ)
    (step : ∀ (n : Nat) (ρ : List Sl) (N : List Sl → Prop), I n ρ → (∀ m ρ', m < n → I m ρ' → N ρ') → c ρ (fun k => if k = true then b { κ with nx := N, ct := N, bk := κ.nx } ρ else κ.nx ρ) (fun nm => κ.ex nm ρ)) :
    ∃ k, wIter c b κ k ρ := ⟨n + 1, while_at I step (n + 1) n ρ (by omega) h0⟩

theorem kb {κ : Rv → Prop} {b : Bool} (h : b = true) (k : κ (.v (.bl true))) : κ (.v (.bl b)) := by rw [h]; exact k

/-! ### comprehensions -/
theorem lc_at {g : DG} {t : DT} {e : DE} {ρ : List Sl} {κ : Rv → Prop} (ds : List Dat) (I : Nat → List Dat → Prop)
    (step : ∀ (i : Nat) (d : Dat) (acc : List Dat) (N : List Dat → Prop), ds[i]? = some d → I i acc → (∀ acc', I (i + 1) acc' → N acc') →
      g (.v d) ρ (fun ρ1 => t ρ1 (fun b => if b = true then e ρ1 (fun r => match frz1 r with
        | some x => acc.length < sizeLine ∧ N (acc ++ [x])
        | none => False) (fun _ => False) else N acc) (fun _ => False))) (fin : ∀ acc, I ds.length acc → κ (.n acc)) :
    ∀ (k i : Nat) (acc : List Dat), i + k = ds.length → I i acc → lcL g t e ρ κ acc (ds.drop i)
  | 0, i, acc, hk, h => by
    have e : i = ds.length := by omega
    rw [e, List.drop_length]
    rw [e] at h
    exact fin acc h
  | k + 1, i, acc, hk, h => by
    have hi : i < ds.length := by omega
    rw [List.drop_eq_getElem_cons hi]
    exact step i _ acc _ (List.getElem?_eq_getElem hi) h fun acc' h' => lc_at ds I step fin k (i + 1) acc' (by omega) h'
theorem lc_ind {g : DG} {t : DT} {e : DE} {ρ : List Sl} {κ : Rv → Prop} {ds : List Dat} (I : Nat → List Dat → Prop) (h0 : I 0 [])
    (step : ∀ (i : Nat) (d : Dat) (acc : List Dat) (N : List Dat → Prop), ds[i]? = some d → I i acc → (∀ acc', I (i + 1) acc' → N acc') →
      g (.v d) ρ (fun ρ1 => t ρ1 (fun b => if b = true then e ρ1 (fun r => match frz1 r with
        | some x => acc.length < sizeLine ∧ N (acc ++ [x])
        | none => False) (fun _ => False) else N acc) (fun _ => False))) (fin : ∀ acc, I ds.length acc → κ (.n acc)) : lcL g t e ρ κ [] ds := by
  have := lc_at ds I step fin ds.length 0 [] (by omega) h0
  simpa using this
theorem sz_ok {n : Nat} (h : n < 100000) : n < sizeLine := Nat.lt_of_lt_of_le h (by decide)
/-- [e for x in xs], e told by a function -/
theorem lc_map {α : Type} {f h : α → Dat} {g : DG} {e : DE} {ρ : List Sl} {κ : Rv → Prop} {xs : List α} (hl : xs.length ≤ 100000)
    (step : ∀ (x : α) (N : Rv → Prop), x ∈ xs → N (.v (h x)) → g (.v (f x)) ρ (fun ρ1 => e ρ1 N (fun _ => False))) (k : κ (.n (xs.map h))) : lcL g tYesD e ρ κ [] (xs.map f) := by
  refine lc_ind (fun i acc => acc = (xs.take i).map h) rfl (fun i d acc N hd ha hn => ?_) (fun acc ha => ?_)
  · rw [List.getElem?_map] at hd
    obtain ⟨x, hx, rfl⟩ := Option.map_eq_some_iff.mp hd
    have hi : i < xs.length := by
      by_cases hi : i < xs.length
      · exact hi
      · rw [List.getElem?_eq_none (by omega)] at hx; exact nomatch hx
    have step' := step x (fun r => match frz1 r with
        | some x => acc.length < sizeLine ∧ N (acc ++ [x])
        | none => False) (List.mem_of_getElem? hx) ⟨?_, ?_⟩
    · exact step'
    · rw [ha, List.length_map, List.length_take]; exact sz_ok (by omega)
    · refine hn _ ?_
      rw [ha, List.take_add_one, hx, List.map_append]; rfl
  · rw [ha, List.length_map, List.take_of_length_le (Nat.le_refl _)]; exact k
/-- item by item -/
def All2 {α β : Type} (R : α → β → Prop) (xs : List α) (ys : List β) : Prop := ys.length = xs.length ∧ ∀ (i : Nat) (x : α) (y : β), xs[i]? = some x → ys[i]? = some y → R x y
theorem lc_rel {α β : Type} {f : α → Dat} {h : β → Dat} {g : DG} {e : DE} {ρ : List Sl} {κ : Rv → Prop} {xs : List α} (R : α → β → Prop) (hl : xs.length ≤ 100000)
    (step : ∀ (x : α) (N : Rv → Prop), x ∈ xs → (∀ y, R x y → N (.v (h y))) → g (.v (f x)) ρ (fun ρ1 => e ρ1 N (fun _ => False))) (k : ∀ ys, All2 R xs ys → κ (.n (ys.map h))) : lcL g tYesD e ρ κ [] (xs.map f) := by
  refine lc_ind (fun i acc => ∃ ys : List β, acc = ys.map h ∧ ys.length = min i xs.length ∧ ∀ (j : Nat) (x : α) (y : β), xs[j]? = some x → ys[j]? = some y → R x y) ⟨[], rfl, by simp, fun j x y _ h => by simp at h⟩ (fun i d acc N hd ha hn => ?_) (fun acc ha => ?_)
  · rw [List.getElem?_map] at hd
    obtain ⟨x, hx, rfl⟩ := Option.map_eq_some_iff.mp hd
    have hi : i < xs.length := by
      by_cases hi : i < xs.length
      · exact hi
      · rw [List.getElem?_eq_none (by omega)] at hx; exact nomatch hx
    obtain ⟨ys, rfl, hy, hr⟩ := ha
    have step' := step x (fun r => match frz1 r with
        | some x => (ys.map h).length < sizeLine ∧ N (ys.map h ++ [x])
        | none => False) (List.mem_of_getElem? hx) (fun y hxy => ⟨?_, ?_⟩)
    · exact step'
    · rw [List.length_map]; exact sz_ok (by omega)
    · refine hn _ ⟨ys ++ [y], by rw [List.map_append]; rfl, by rw [List.length_append, hy, List.length_singleton]; omega, fun j x' y' h1 h2 => ?_⟩
      by_cases hj : j < ys.length
      · rw [List.getElem?_append_left hj] at h2
        exact hr j x' y' h1 h2
      · have hj2 : j = ys.length := by
          by_cases hj3 : j = ys.length
          · exact hj3
          · rw [List.getElem?_eq_none (by rw [List.length_append, List.length_singleton]; omega)] at h2; exact nomatch h2
        have : j = i := by omega
        subst this
        rw [hj2, List.getElem?_append_right (Nat.le_refl _), Nat.sub_self] at h2
        rw [hx] at h1
        cases h1
        have : y = y' := by simpa using h2
        rw [← this]; exact hxy
  · obtain ⟨ys, rfl, hy, hr⟩ := ha
    rw [List.length_map] at hy
    exact k ys ⟨by omega, hr⟩

/-! ### the cells of a script -/
structure Cls (cs : List Int) : Prop where
  ne : cs ≠ []
  len : cs.length ≤ 60
  bt : ∀ z ∈ cs, Bt 1048577 z
theorem Cls.ix {cs : List Int} (h : Cls cs) (i : Int) {κ : Dat → Prop} (k : ∀ z, Bt 1048577 z → κ (.int z)) : onS (atI (cs.map Dat.int) (i % ((cs.map Dat.int).length : Int))) κ := by
  obtain ⟨z, hz, e⟩ := at_mod (f := Dat.int) i h.ne
  exact onS_some e (k z (h.bt z hz))
theorem Cls.one : Cls [0] := ⟨by simp, by simp, fun z hz => by rw [List.mem_singleton.mp hz]; exact (Bt.lit (k := 1) rfl).mono (by decide)⟩
theorem Cls.take {ns : List Int} (hs : Scr ns) (h : ns.take 60 ≠ []) : Cls (ns.take 60) := ⟨h, by rw [List.length_take]; omega, fun z hz => hs.bt z (List.mem_of_mem_take hz)⟩
theorem Cls.modp {cs : List Int} (h : Cls cs) {i : Int} : ModP i ((cs.map Dat.int).length : Int) := modp_len h.ne
theorem Cls.rng {cs : List Int} (h : Cls cs) : -(2 ^ 62) ≤ ((cs.map Dat.int).length : Int) ∧ ((cs.map Dat.int).length : Int) < 2 ^ 62 := by
  have := h.len
  rw [List.length_map]; omega
/-- cells = script[:60]; if len(cells) == 0: cells = [0] -/
theorem cells_go {T : DS} {κ : DEnds} {ns : List Int} {s1 : Sl} {ρ : List Sl} (hs : Scr ns) (h : ∀ cs, Cls cs → T κ (.br (ns.map Dat.int) :: .ow (cs.map Dat.int) :: ρ)) :
    sSeq (sAsg (dCut (dVar 0) (oNone) (oSome (dC (.int 60)))) (gN 1)) (sSeq (sIf (tVal (dEq (dB kLen (aCons (dVar 1) (aNil))) (dC (.int 0)))) (sAsg (dLst (aCons (dC (.int 0)) (aNil))) (gN 1)) (sNil)) T) κ (.br (ns.map Dat.int) :: s1 :: ρ) := by
  have e : cutD (ns.map Dat.int) none (some 60) = (ns.take 60).map Dat.int := by rw [List.map_take]; exact cutD_take _ 60
  show (sSeq (sIf (tVal (dEq (dB kLen (aCons (dVar 1) (aNil))) (dC (.int 0)))) (sAsg (dLst (aCons (dC (.int 0)) (aNil))) (gN 1)) (sNil)) T) κ (.br (ns.map Dat.int) :: .ow (cutD (ns.map Dat.int) none (some 60)) :: ρ)
  rw [e]
  refine ⟨⟨rfl, rfl⟩, ifEq (fun h0 => ?_) (fun h0 => ?_)⟩
  · exact ⟨rfl, h [0] Cls.one⟩
  · exact h _ (Cls.take hs fun z => h0 (by rw [z]; rfl))
/-- a number of so many bits of a number of so many -/
@[irreducible] def S_num (B k : Nat) : Fsp := fun ds κ _ => ∃ c : Int, ds = [.int c] ∧ Bt B c ∧ ∀ z, Bt k z → κ (.v (.int z))
theorem S_num_go {B k : Nat} {c : Int} {κ : Rv → Prop} {ε : Str → Prop} (h : Bt B c) (q : ∀ z, Bt k z → κ (.v (.int z))) : S_num B k [.int c] κ ε := by unfold S_num; exact ⟨c, rfl, h, q⟩
theorem S_num.out {B k : Nat} {ds : List Dat} {κ : Rv → Prop} {ε : Str → Prop} (h : S_num B k ds κ ε) : ∃ c : Int, ds = [.int c] ∧ Bt B c ∧ ∀ z, Bt k z → κ (.v (.int z)) := by unfold S_num at h; exact h
/-! ### sums over lists -/
def sm {α : Type} (f : α → Int) : List α → Int
  | [] => 0
  | x :: xs => f x + sm f xs
theorem sm_append {α : Type} (f : α → Int) : ∀ xs ys : List α, sm f (xs ++ ys) = sm f xs + sm f ys
  | [], ys => by simp [sm]
  | x :: xs, ys => by
    show f x + sm f (xs ++ ys) = f x + sm f xs + sm f ys
    rw [sm_append f xs ys]; omega
theorem sm_take {α : Type} (f : α → Int) {xs : List α} {i : Nat} {x : α} (h : xs[i]? = some x) : sm f (xs.take (i + 1)) = sm f (xs.take i) + f x := by
  rw [List.take_add_one, h, sm_append]
  show _ + (f x + 0) = _
  omega
theorem sm_rev {α : Type} (f : α → Int) : ∀ xs : List α, sm f xs.reverse = sm f xs
  | [] => rfl
  | x :: xs => by
    rw [List.reverse_cons, sm_append, sm_rev f xs]
    show _ + (f x + 0) = f x + _
    omega
theorem sm_all {α : Type} (f : α → Int) (xs : List α) : sm f (xs.take xs.length) = sm f xs := by rw [List.take_length]
/-! ### range(lo, hi, c) -/
theorem rng3_go {lo hi c : Int} {κ : List Dat → Prop} (h1 : -(2 ^ 61) ≤ lo) (h2 : lo < 2 ^ 61) (h3 : -(2 ^ 61) ≤ hi) (h4 : hi < 2 ^ 61) (hc : 0 < c) (hc2 : c < 1000000) (k : κ (rngDC lo c (rN lo hi c))) : ∃ n, RgC lo hi c n ∧ κ (rngDC lo c n) := ⟨_, rgC_up h1 h2 h3 h4 hc hc2, k⟩
theorem rN_lt {lo hi c : Int} (hc : 0 < c) {i : Nat} (h : i < rN lo hi c) : lo + (i : Int) * c < hi := by
  unfold rN at h
  split at h
  · rename_i hlt
    have h0 : 0 ≤ (hi - lo - 1) / c := Int.ediv_nonneg (by omega) (by omega)
    have h1 : (i : Int) ≤ (hi - lo - 1) / c := by omega
    have h2 := Int.mul_le_of_le_ediv hc h1
    omega
  · omega
theorem rN_le {lo hi c : Int} (hc : 0 < c) {n : Nat} (h : hi ≤ lo + (n : Int) * c) : rN lo hi c ≤ n := by
  rcases Nat.lt_or_ge n (rN lo hi c) with z | z
  · have := rN_lt hc z
    omega
  · exact z
theorem Scr.len' {ns : List Int} (h : Scr ns) : (ns.map Dat.int).length ≤ 63 := by rw [List.length_map]; exact h.len
/-- one more at the end -/
theorem map_snoc {α : Type} (f : α → Dat) (xs : List α) (x : α) : xs.map f ++ [f x] = (xs ++ [x]).map f := by rw [List.map_append]; rfl
theorem all_snoc {α : Type} {P : α → Prop} {xs : List α} {x : α} (h : ∀ y ∈ xs, P y) (hx : P x) : ∀ y ∈ xs ++ [x], P y := fun y hy => by
  rcases List.mem_append.mp hy with z | z
  · exact h y z
  · rw [List.mem_singleton.mp z]; exact hx
theorem szm {α : Type} {f : α → Dat} {xs : List α} (h : xs.length < 100000) : (xs.map f).length < sizeLine := by rw [List.length_map]; exact sz_ok h
/-! ### the same of a list that is equal to a typed one -/
theorem lc_map' {α : Type} {f h : α → Dat} {g : DG} {e : DE} {ρ : List Sl} {κ : Rv → Prop} {ds : List Dat} (xs : List α) (eq : ds = xs.map f) (hl : xs.length ≤ 100000)
    (step : ∀ (x : α) (N : Rv → Prop), x ∈ xs → N (.v (h x)) → g (.v (f x)) ρ (fun ρ1 => e ρ1 N (fun _ => False))) (k : κ (.n (xs.map h))) : lcL g tYesD e ρ κ [] ds := by
  rw [eq]; exact lc_map hl step k
theorem lc_rel' {α β : Type} {f : α → Dat} {h : β → Dat} {g : DG} {e : DE} {ρ : List Sl} {κ : Rv → Prop} {ds : List Dat} (xs : List α) (eq : ds = xs.map f) (R : α → β → Prop) (hl : xs.length ≤ 100000)
    (step : ∀ (x : α) (N : Rv → Prop), x ∈ xs → (∀ y, R x y → N (.v (h y))) → g (.v (f x)) ρ (fun ρ1 => e ρ1 N (fun _ => False))) (k : ∀ ys, All2 R xs ys → κ (.n (ys.map h))) : lcL g tYesD e ρ κ [] ds := by
  rw [eq]; exact lc_rel R hl step k
theorem for_map' {α : Type} {f : α → Dat} {g : DG} {b : DS} {κ : DEnds} {ds : List Dat} (xs : List α) (eq : ds = xs.map f) (I : Nat → List Sl → Prop) {ρ : List Sl} (h0 : I 0 ρ)
    (step : ∀ (i : Nat) (x : α) (ρ : List Sl) (N : List Sl → Prop), xs[i]? = some x → I i ρ → (∀ ρ', I (i + 1) ρ' → N ρ') → g (.v (f x)) ρ (fun ρ1 => b { κ with nx := N, ct := N, bk := κ.nx } ρ1)) (fin : ∀ ρ, I xs.length ρ → κ.nx ρ) : sForL g b κ ds ρ := by
  rw [eq]; exact for_map I h0 step fin
theorem cutD_nat (ds : List Dat) {i j : Nat} {a b : Int} (ea : a = (i : Int)) (eb : b = (j : Int)) (hij : i ≤ j) (hj : j ≤ ds.length) : cutD ds (some a) (some b) = (ds.drop i).take (j - i) := by
  subst ea eb
  unfold cutD
  rw [HT.sIx_nat, HT.sIx_nat, Nat.min_eq_left hj, Nat.min_eq_left (Nat.le_trans hij hj)]
theorem cutD_map {α : Type} (f : α → Dat) (xs : List α) {i j : Nat} {a b : Int} (ea : a = (i : Int)) (eb : b = (j : Int)) (hij : i ≤ j) (hj : j ≤ xs.length) : cutD (xs.map f) (some a) (some b) = ((xs.drop i).take (j - i)).map f := by
  rw [cutD_nat _ ea eb hij (by rw [List.length_map]; exact hj), List.map_take, List.map_drop]
theorem All2.mem {α β : Type} {R : α → β → Prop} {P : β → Prop} {xs : List α} {ys : List β} (h : All2 R xs ys) (hp : ∀ x ∈ xs, ∀ y, R x y → P y) : ∀ y ∈ ys, P y := fun y hy => by
  obtain ⟨i, hi⟩ := List.getElem?_of_mem hy
  have hl : i < xs.length := by
    have : i < ys.length := by
      by_cases z : i < ys.length
      · exact z
      · rw [List.getElem?_eq_none (by omega)] at hi; exact nomatch hi
    rw [← h.1]; exact this
  have hx : xs[i]? = some xs[i] := List.getElem?_eq_getElem hl
  exact hp _ (List.getElem_mem hl) y (h.2 i _ y hx hi)
end DL
/-! list comprehensions that an exception of the element may leave -/
namespace DL
open PySem PySem.Spec PyProof.Rows L2
section
variable {M : Model} {A : Around} {E : Value → Shared → Prop} {s : Shared} {env : Env}
/-- what is asked of the end of a comprehension's block, whose surroundings are ce -/
def blkEnd (M : Model) (A : Around) (E : Value → Shared → Prop) (use : Option (Value → Sem Unit)) (Q : Value → Shared → Prop) (acc : Value) (ce : Env) : Result → Shared → Prop
  | .ok f, s' => compPost M A E use Q acc ce.locals (.ok f) s'
  | .error x, s' => ∃ m, s'.heap.Ns ce.locals m ∧ ∀ g, Heap.SameBut ce.locals s'.heap g →
      wpAny M A (passOn "comprehension.variables-let-go" x ce : Sem Value) (fun _ _ => False) E { s' with heap := g }
/-- a comprehension, its own block's end told for just the surroundings that it has -/
theorem comp_run {e : Expr} {sc : Scope} {pos : Pos} {mk first : Sem Value} {c : Comprehension} {cs : List Comprehension} {clo : List (Str × Addr)} {use : Option (Value → Sem Unit)} {Q : Value → Shared → Prop}
    (h1 : clausesOf e = c :: cs) (h2 : ∀ x, foldedSetIterable c.iter env x = pure x) (h3 : closureFor sc env = pure clo) (h4 : sc.kind = .function)
    (h5 : ∀ x ∈ sc.names, x.2 = .local → sc.names.lookup x.1 = some .local)
    (h : wpAny M A first (fun x u1 => wpAny M A (pyIter x) (fun it u2 => wpAny M A mk (fun acc u3 => wpAny M A (newFunctionEnv sc env.globals clo [] env.qual none .none (some env)) (fun ce u4 =>
      codeAny M A (.compStart e 0 it acc { ce with scope := relabel sc env }) (blkEnd M A E use Q acc { ce with scope := relabel sc env }) u4) E u3) E u2) E u1) E s) :
    wpAny M A (comprehension e sc env pos mk false first use) Q E s := by
  unfold comprehension
  rw [h3, h1]
  refine wpAny_bind (wpAny_mono h (fun x u1 k1 => ?_) fun _ _ z => z)
  refine wpAny_bind (wpAny_standAt (wpAny_bind (wpAny_of_eq (h2 x) (wpAny_bind (wpAny_holding (wpAny_mono k1 (fun it u2 k2 => ?_) fun _ _ z => z))))))
  refine wpAny_standIf (wpAny_bind (wpAny_mono k2 (fun acc u3 k3 => ?_) fun _ _ z => z))
  refine wpAny_bind (wpAny_pure (wpAny_bind (wpAny_mono k3 (fun ce u4 k4 => ?_) fun _ _ z => z)))
  dsimp only
  have kl : ∀ x ∈ sc.names, x.2 = .local → Env.kindOf { ce with scope := relabel sc env } x.1 = some .local := fun x hx hl => lookup_relabel_local (h5 x hx hl)
  have v1 : ∀ x ∈ (sc.names.filter fun x => (x.2 == .local || x.2 == .cell) && x.1 != (".0" : Str)).reverse, x.2 = .local → Env.kindOf { ce with scope := relabel sc env } x.1 = some .local :=
    fun x hx => kl x (List.mem_filter.mp (List.mem_reverse.mp hx)).1
  have v2 : ∀ x ∈ (sc.names.filter fun x => (x.2 == .local || x.2 == .cell) && x.1 != (".0" : Str)).reverse.drop 1 ++ (sc.names.filter fun x => (x.2 == .local || x.2 == .cell) && x.1 != (".0" : Str)).reverse.take 1,
      x.2 = .local → Env.kindOf { ce with scope := relabel sc env } x.1 = some .local := fun x hx =>
    (List.mem_append.mp hx).elim (fun z => v1 x (List.mem_of_mem_drop z)) fun z => v1 x (List.mem_of_mem_take z)
  refine wpAny_holding (wpAny_bind (wpAny_attempt (wpAny_holding (wpAny_run (codeAny_mono k4 fun r u hr => ?_)))))
  cases r with
  | ok f =>
    cases use with
    | none =>
      obtain ⟨m, hn, hr⟩ := hr
      exact wpAny_bind (wpAny_holding (wpAny_comp_letGo (cenv := { ce with scope := relabel sc env }) h4 _ u m v1 hn fun g m' _ sb => wpAny_pure (hr g sb)))
    | some us =>
      refine wpAny_bind (wpAny_rule (wpAny_bind (wpAny_holding (wpAny_mono hr (fun _ u' hr' => ?_) fun _ _ z => z))))
      obtain ⟨m, hn, hr'⟩ := hr'
      exact wpAny_bind (wpAny_comp_letGo (cenv := { ce with scope := relabel sc env }) h4 _ u' m v2 hn fun g m' _ sb => wpAny_pure (hr' g sb))
  | error x =>
    obtain ⟨m, hn, hr⟩ := hr
    refine wpAny_bind (wpAny_holding (wpAny_comp_letGo (cenv := { ce with scope := relabel sc env }) h4 _ u m ?_ hn fun g m' _ sb => ?_))
    · cases use with
      | none => exact v1
      | some us => exact v1
    · exact wpAny_mono (hr g sb) (fun _ _ f => f.elim) fun _ _ z => z
/-- whatever frame noted it last, this one notes it -/
theorem note_any {Z : Obj → Prop} {B : Heap} {outer : List Env} {L a : Addr} {fl : Value} {Q : Unit → Shared → Prop} (hZ : HandSPX.Steady Z) (hfr : A.frames = some (env :: outer)) (hf : env.frame = some L)
    (st : B.StaysIn s.heap) (ba : B.get? a = none) (ff : s.heap.FunFrames B (env :: outer)) (t : HandSPX.TracedZ s.heap B a Z fl) (ne : (fl == rawInt L) = false)
    (hQ : ∀ g, HandSPX.HeldZ B (env :: outer) a Z L g → s.heap.UpToSlots g → Q () { s with heap := g }) : wpAny M A (noteFrame (.ref a) env) Q E s := by
  obtain ⟨oe, vs, T, oT, ts, ea, za, da, f1, bT, nTa, eT, dT, f3⟩ := t
  unfold noteFrame
  simp only [hf]
  refine wpAny_bind (wpAny_field ea da f1 ?_)
  rw [if_pos (show (Value.ref T != Value.none) = true by simp)]
  refine wpAny_bind (wpAny_field eT dT f3 ?_)
  rw [if_neg (by rw [ne]; exact Bool.false_ne_true)]
  refine wpAny_bind (wpAny_setField eT dT (Array.getElem?_eq_some_iff.mp f3).1 ?_)
  have oth : ∀ b, b ≠ T → (s.heap.update T (Obj.mapFields (·.setIfInBounds 3 Value.none))).get? b = s.heap.get? b := fun b hb => Heap.get?_update_other _ _ fun z => hb z.symm
  have nrec : ∀ b o, s.heap.get? b = some o → (∀ vs, o.data ≠ .fields vs) → b ≠ T := fun b o eb nd z => by
    subst z
    rw [eT] at eb
    cases eb
    exact nd _ dT
  have ks : B.StaysIn (s.heap.update T (Obj.mapFields (·.setIfInBounds 3 Value.none))) := fun b o eb => by
    rw [oth b fun z => by rw [z, bT] at eb; cases eb]
    exact st b o eb
  refine HandSPX.wpAny_entryZ hZ hfr (ff.of_keeps fun b o eb nd => ⟨o, by rw [oth b (nrec b o eb nd)]; exact eb, rfl⟩) hf (by rw [oth a fun z => nTa z.symm]; exact ea) ks ba da (Array.getElem?_eq_some_iff.mp f1).1 za fun g ng => ?_
  obtain ⟨y1, y2, y3, y4⟩ := ng
  exact hQ g ⟨y1, ba, y2, y3⟩ fun b o eb nd => y4 b o (by rw [oth b (nrec b o eb nd)]; exact eb) nd
end

theorem note_frame {e : Value} {c c' : Env} (h : c.frame = c'.frame) : noteFrame e c = noteFrame e c' := by
  unfold noteFrame PySem.frameOf
  rw [h]
section
variable {X : Cx}
/-- an exception in the air of the block is one in ours, when the block has let its names go -/
theorem blk_air {pins : List (Addr × Obj)} {σ : L2.St} {H3 : Hp} {s3 : Shared} {scope : Scope} {ce : Env} {fp : List Addr} {pn : List (Addr × Obj)} {xe : Value → Shared → Prop} {W : WX} {use : Option (Value → Sem Unit)} {Q : Value → Shared → Prop} {acc : Value}
    (hs : X.stack = X.env :: X.outer) (hf : X.env.frame = some X.env.locals) (tk : Takes X W) (I3 : Inv X pins σ H3 s3) (f3 : ∀ b ∈ fp, FpOk X pins H3 b) (hL : ce.locals = s3.heap.objs.size) (hF : ce.frame = X.env.frame) {u : Value} {s' : Shared}
    (x : XE ((X.blk s3 H3 scope ce fp).tr pn xe) (fun cls d _ H' => W cls d σ H') u s') : notedBy (model X.prog X.w) X.A ce (fun e s' => blkEnd (model X.prog X.w) X.A X.xe use Q acc ce (.error e) s') u s' := by
  obtain ⟨a, B, sI, pins', σ', H', cls, d, rfl, I', nb, up, sky, na, os, ag, w⟩ := x
  have nb : ∀ b o, sI.heap.get? b = some o → b ∉ frs X.stack → B.get? b = some o := nb
  have sky : Sky B X.stack a (Zc cls d) ce.locals s'.heap := sky
  have w : W cls d σ H' := w
  have base : Un (frs X.stack) fp H3 H' s3.heap sI.heap := I'.base
  have hfr : X.A.frames = some (X.env :: X.outer) := by rw [I3.ok.frames, hs]
  have lt := I3.lt
  have nC : H' ce.locals = none := I'.free
  obtain ⟨m, hm, _⟩ := I'.loc
  have hm : sI.heap.Ns ce.locals m := hm
  show wpAny _ _ (noteFrame (.ref a) ce) _ _ _
  rw [note_frame hF]
  rw [hs] at sky
  -- noted
  have go : ∀ g1, HandSPX.HeldZ B (X.env :: X.outer) a (Zc cls d) X.env.locals g1 → s'.heap.UpToSlots g1 → blkEnd (model X.prog X.w) X.A X.xe use Q acc ce (.error (.ref a)) { s' with heap := g1 } := by
    intro g1 held up1
    refine ⟨m, (up.trans up1).ns hm, fun g2 sb => ?_⟩
    have sb2 : ∀ b, b ≠ ce.locals → g2.get? b = g1.get? b := sb.2
    obtain ⟨st, ba, ff, oe, vs, T, oT, ts, ea, za, da, f1, bT, nTa, eT, dT, f3'⟩ := held
    obtain ⟨oC, es, ep, eC, rC⟩ := (up.trans up1).ns hm
    have dC : ∀ vs, oC.data ≠ .fields vs := fun vs z => by rw [rC.1] at z; exact nomatch z
    have aC : a ≠ ce.locals := fun z => by rw [z, eC] at ea; cases ea; exact dC _ da
    have TC : T ≠ ce.locals := fun z => by rw [z, eC] at eT; cases eT; exact dC _ dT
    have frC : ∀ b ∈ frs X.stack, b ≠ ce.locals := fun b hb z => by
      obtain ⟨_, o, e, _⟩ := I3.stack.mem hb
      have := Heap.lt_size e
      rw [z, hL] at this
      exact Nat.lt_irrefl _ this
    have h2 : ∀ b o, (PySem.W.hideAll B [ce.locals]).get? b = some o → B.get? b = some o ∧ b ≠ ce.locals := fun b o e => ⟨PySem.W.of_hideAll _ e, fun z => by rw [z, PySem.W.hideAll_none _ (by simp)] at e; exact nomatch e⟩
    have h2' : ∀ b o, B.get? b = some o → b ≠ ce.locals → (PySem.W.hideAll B [ce.locals]).get? b = some o := fun b o e n => PySem.W.hideAll_get _ e (by simp [n])
    have hn : ∀ b, B.get? b = none → (PySem.W.hideAll B [ce.locals]).get? b = none := fun b e => by
      cases q : (PySem.W.hideAll B [ce.locals]).get? b with
      | none => rfl
      | some o => rw [(h2 b o q).1] at e; exact nomatch e
    have st2 : (PySem.W.hideAll B [ce.locals]).StaysIn g2 := fun b o e => by
      obtain ⟨e1, n⟩ := h2 b o e
      rw [sb2 b n]
      exact st b o e1
    have ff2 : g2.FunFrames (PySem.W.hideAll B [ce.locals]) (X.env :: X.outer) := by
      refine funFrames_none (base := B) (B := PySem.W.hideAll B [ce.locals]) ?_ fun b hb => hn b (ff.mem hb).1
      have key : ∀ l : List Env, (∀ b ∈ frs l, b ≠ ce.locals) → g1.FunFrames B l → g2.FunFrames B l := by
        intro l
        induction l with
        | nil => exact fun _ _ => trivial
        | cons e l ih =>
          intro hl hff
          obtain ⟨k1, ⟨L, o, q1, q2, q3, q4⟩, k2⟩ := hff
          refine ⟨k1, ⟨L, o, q1, q2, ?_, q4⟩, ih (fun b hb => hl b ?_) k2⟩
          · rw [sb2 L (hl L (List.mem_filterMap.mpr ⟨e, List.mem_cons_self, q1⟩))]
            exact q3
          · obtain ⟨x, hx, q⟩ := List.mem_filterMap.mp hb
            exact List.mem_filterMap.mpr ⟨x, List.mem_cons_of_mem _ hx, q⟩
      exact key _ (fun b hb => frC b (by rw [hs]; exact hb)) ff
    have held2 : HandSPX.HeldZ (PySem.W.hideAll B [ce.locals]) (X.env :: X.outer) a (Zc cls d) X.env.locals g2 :=
      ⟨st2, hn a ba, ff2, oe, vs, T, oT, ts, by rw [sb2 a aC]; exact ea, za, da, f1, hn T bT, nTa, by rw [sb2 T TC]; exact eT, dT, f3'⟩
    have e2a : g2.get? a = some oe := by rw [sb2 a aC]; exact ea
    unfold PySem.passOn
    refine wpAny_bind (wpAny_field (s := { s' with heap := g2 }) e2a da f1 ?_)
    rw [if_neg (show ¬ (Value.ref T == Value.none) = true by simp)]
    rw [hF, hf]
    refine wpAny_bind (HandSPX.setFlight_onZ (s := { s' with heap := g2 }) held2 fun g3 held3 up3 => ?_)
    refine wpAny_throw (tk _ _ ?_)
    -- the state without the exception
    obtain ⟨G, r1, r2⟩ := restrict g3 fun b => ((PySem.W.hideAll B [ce.locals]).get? b).isSome || decide (b ∈ frs X.stack)
    have st3 : (PySem.W.hideAll B [ce.locals]).StaysIn g3 := held3.1
    have gB : ∀ b o, (PySem.W.hideAll B [ce.locals]).get? b = some o → G.get? b = some o := fun b o e => by
      rw [r1 b (by simp [e])]
      exact st3 b o e
    have gF : ∀ b, b ∈ frs X.stack → G.get? b = g3.get? b := fun b hb => r1 b (by simp [hb])
    have og : ∀ b o, G.get? b = some o → g3.get? b = some o ∧ (((PySem.W.hideAll B [ce.locals]).get? b).isSome = true ∨ b ∈ frs X.stack) := fun b o e => by
      cases q : (((PySem.W.hideAll B [ce.locals]).get? b).isSome || decide (b ∈ frs X.stack)) with
      | false => rw [r2 b q] at e; exact nomatch e
      | true =>
        rw [r1 b q] at e
        exact ⟨e, by simpa [Bool.or_eq_true] using q⟩
    have lt3 : ∀ b o, s3.heap.get? b = some o → b ≠ ce.locals := fun b o e z => by
      have := Heap.lt_size e
      rw [z, hL] at this
      exact Nat.lt_irrefl _ this
    have slot : ∀ b o, b ∈ frs X.stack → sI.heap.get? b = some o → (∀ vs, o.data ≠ .fields vs) → ∃ sl, G.get? b = some { o with slots := sl } := fun b o hb e nd => by
      obtain ⟨sl, q⟩ := (up.trans up1) b o e nd
      rw [← sb2 b (frC b hb)] at q
      obtain ⟨sl2, q2⟩ := up3 b _ q nd
      exact ⟨sl2, by rw [gF b hb]; exact q2⟩
    have ndF : ∀ b o, b ∈ frs X.stack → s3.heap.get? b = some o → ∀ vs, o.data ≠ .fields vs := fun b o hb e => by
      obtain ⟨_, o', e', hd⟩ := I3.stack.mem hb
      rw [e] at e'
      cases e'
      exact hd
    have un : Un (frs X.stack) fp H3 H' s3.heap G := by
      refine ⟨fun b o e n hb hx => ?_, fun b o e n hb hx => ?_, base.free, fun b o e hx => ?_, base.tups, base.frzs, base.tbls⟩
      · exact gB b o (h2' b o (nb b o (base.keep b o e n hb hx) hb) (lt3 b o e))
      · obtain ⟨sl, q⟩ := base.slot b o e n hb hx
        obtain ⟨sl2, q2⟩ := slot b _ hb q (ndF b o hb e)
        exact ⟨sl2, q2⟩
      · obtain ⟨o', q⟩ := base.there b o e hx
        by_cases hb : b ∈ frs X.stack
        · obtain ⟨sl, q'⟩ := base.slot b o e (I3.stkFree b hb) hb hx
          obtain ⟨sl2, q2⟩ := slot b _ hb q' (ndF b o hb e)
          exact ⟨_, q2⟩
        · exact ⟨o', gB b o' (h2' b o' (nb b o' q hb) (lt3 b o e))⟩
    have hokB : HOk X.prog X.w H' B := I'.inGround nb
    have hok2 : HOk X.prog X.w H' (PySem.W.hideAll B [ce.locals]) := fun b v q =>
      (hokB b v q).stay (fun c z hc e => h2' c z e fun y => by
        subst y
        rcases hc with hc | hc
        · rw [hc, q] at nC; exact nomatch nC
        · rw [hc] at nC; exact nomatch nC) (fun _ e => e) fun _ _ e => e
    have J := I3.call (ch := fp) (h' := G) (g' := s'.gens) (t' := s'.toks) (d' := s'.drawn) un (hok2.kept gB) ag fun b hb => ⟨(f3 b hb).2.2.2.1, (f3 b hb).2.1, (f3 b hb).2.2.2.2.1, (f3 b hb).2.2.2.2.2⟩
    refine ⟨a, PySem.W.hideAll B [ce.locals], _, pins, σ, H', cls, d, rfl, J, fun b o e hb => ?_, Heap.UpToSlots.of_keeps fun b o e => (og b o e).1, .inr (.inr (by rw [hs]; exact held3)), na, os.trans I'.os, ag, w⟩
    obtain ⟨e', h⟩ := og b o e
    rcases h with h | h
    · obtain ⟨o', q⟩ := Option.isSome_iff_exists.mp h
      have z := st3 b o' q
      rw [e'] at z
      cases z
      exact q
    · exact absurd h hb
  have nl : ∀ fl : Value, (fl = .none ∨ fl = rawInt ce.locals) → (fl == rawInt X.env.locals) = false := fun fl h => by
    rcases h with rfl | rfl
    · simp [rawInt]
    · rw [hL]
      have n : ¬ s3.heap.objs.size = X.env.locals := Nat.ne_of_gt lt
      simp [rawInt]
      exact fun e => n (Int.ofNat_inj.mp e)
  rcases sky with ⟨hB, hn, hl, oe, vs, he, hz, hd, h1⟩ | ⟨hB, hn, hl, t⟩ | ⟨hB, hn, hl, t⟩
  · exact HandSPX.look_newZ Zc.steady hfr hl hf he hB hn hd h1 hz go
  · exact note_any Zc.steady hfr hf hB hn hl t (nl _ (.inl rfl)) go
  · exact note_any Zc.steady hfr hf hB hn hl t (nl _ (.inr rfl)) go
/-- [elt for tg in iter if ..], the element may raise -/
theorem lcX_core {pins : List (Addr × Obj)} {s : Shared} {σ : L2.St} {H : Hp} {Q : VK} {elt tg iter : Expr} {ifs : List Expr} {scope : Scope} {own : List (Str × Nat)} {pos pos' : Pos} {wi : TI} {g : TG} {tt : TT} {te : WX → TE} {use : Option (Value → Sem Unit)} {Qf : Value → Shared → Prop} {W : WX}
    (hs : X.stack = X.env :: X.outer) (hf : X.env.frame = some X.env.locals) (tk : Takes X W) (hc : X.calm = true) (hN : X.N.Nodup) (I : Inv X pins σ H s) (hi : PI X tg iter wi) (ok : BlkOk X.N X.env.scope scope own)
    (hg : ∀ s H C cl fp, PG (X.blk s H scope (compEnvC scope cl C X.env) fp) tg g) (ht : ∀ s H C cl fp, PTs (X.blk s H scope (compEnvC scope cl C X.env) fp) ifs tt)
    (he : ∀ s H C cl fp (V : WX) (pn : List (Addr × Obj)) (xe : Value → Shared → Prop), Takes ((X.blk s H scope (compEnvC scope cl C X.env) fp).tr pn xe) V → PassesOwn (model X.prog X.w) X.A (compEnvC scope cl C X.env) xe → PE ((X.blk s H scope (compEnvC scope cl C X.env) fp).tr pn xe) elt (te V))
    (hfs : ∀ x, foldedSetIterable iter X.env x = pure x) (h : tLc wi g tt (te fun cls d _ H' => W cls d σ H') (own.map (·.2)) σ H Q)
    (hRR : ∀ D C s' m H', Inv X pins σ H' s' → Q (.ref D) H' → s'.heap.Ns C m → FpOk X pins H' C → compPost (model X.prog X.w) X.A X.xe use Qf (.ref D) C (.ok .next) s') :
    wpAny (model X.prog X.w) X.A (comprehension (.ListComp elt [⟨tg, iter, ifs, 0⟩] scope pos) scope X.env pos' (newList []) false (eval iter X.env) use) Qf X.xe s := by
  have fre : ∀ y ∈ scope.names, y.2 = .free → ∃ c, X.env.cells.lookup y.1 = some c := fun y hy e => (ok.free y hy e).elim (fun k => I.ok.has _ (.inl k)) fun k => I.ok.has _ (.inr k)
  refine comp_run (use := use) rfl hfs (closure_ok fre) ok.kind (fun y hy e => by rw [ok.uniq y hy, e]) (thn (hi.run pins s σ H _ I h) fun xv u1 hx => thn hx fun itv u2 z2 => ?_)
  obtain ⟨it, its, atK, It_, K2, e, J2, Tr, a2, ok2, qB⟩ := z2
  subst e
  refine wpAny_newObj_type (newEnv_comp ?_) (by show 0 ≤ sizeLine; decide)
  obtain ⟨B, eB⟩ : ∃ B, u2.heap.objs.size = B := ⟨_, rfl⟩
  rw [eB]
  have nB : K2 B = none := J2.hok.fresh (Nat.le_of_eq eB)
  obtain ⟨Wt, ⟨n0, k0⟩, turn⟩ := qB B nB
  obtain ⟨u3, hs3⟩ : ∃ u3 : Shared, ({ u2 with heap := u2.heap.push { cls := .type "list", data := .seq ([] : List Value).toArray } } : Shared) = u3 := ⟨_, rfl⟩
  have e3 : u3.heap = u2.heap.push { cls := .type "list", data := .seq ([] : List Value).toArray } := by rw [← hs3]
  have J3 : Inv X pins σ (upd K2 B (.lst [])) u3 := by
    rw [← hs3]
    refine J2.laid (t' := u2.toks) (fun b o e => Heap.get?_push_of_some _ e) (Nat.le_of_eq eB) ⟨Nat.zero_le _, [], 0, .nil, ?_⟩
    rw [← eB]
    exact Heap.get?_push_size _ rfl
  have ok3 : ∀ b ∈ its, FpOk X pins (upd K2 B (.lst [])) b ∧ b < u3.heap.objs.size := fun b hb => by
    obtain ⟨o, e, _⟩ := Tr.obj _ _ a2 b hb
    have lo := Heap.lt_size e
    refine ⟨⟨?_, (ok2 b hb).2⟩, by rw [e3, Heap.size_push]; exact Nat.lt_succ_of_lt lo⟩
    rw [upd_ne (by rw [← eB]; exact Nat.ne_of_lt lo)]
    exact (ok2 b hb).1
  have a3 : atK 0 u3.heap := Tr.keep _ _ _ a2 fun b _ o e => by rw [e3]; exact Heap.get?_push_of_some _ e
  have J4 := block_start J3 ok hN ok3
  have pgt := hg u3 (upd K2 B (.lst [])) u3.heap.objs.size (cellsFrom (u3.heap.objs.size + 1) scope.names (cloFrom X.env.cells scope.names [])) its
  have pts := ht u3 (upd K2 B (.lst [])) u3.heap.objs.size (cellsFrom (u3.heap.objs.size + 1) scope.names (cloFrom X.env.cells scope.names [])) its
  have pel := he u3 (upd K2 B (.lst [])) u3.heap.objs.size (cellsFrom (u3.heap.objs.size + 1) scope.names (cloFrom X.env.cells scope.names [])) its
  rw [hs3]
  show codeAny _ _ (.compStart (.ListComp elt [⟨tg, iter, ifs, 0⟩] scope pos) 0 (.ref it) (.ref B) (compEnvC scope (cellsFrom (u3.heap.objs.size + 1) scope.names (cloFrom X.env.cells scope.names [])) u3.heap.objs.size X.env)) (blkEnd (model X.prog X.w) X.A X.xe use Qf (.ref B) (compEnvC scope (cellsFrom (u3.heap.objs.size + 1) scope.names (cloFrom X.env.cells scope.names [])) u3.heap.objs.size X.env)) { u3 with heap := pushCells (u3.heap.push { cls := .type "dict", data := .dict #[] }) scope.names }
  have nIts : ∀ b ∈ its, (upd K2 B (.lst [])) b = none := fun b hb => (ok3 b hb).1.1
  obtain ⟨ce, hce⟩ : ∃ ce, compEnvC scope (cellsFrom (u3.heap.objs.size + 1) scope.names (cloFrom X.env.cells scope.names [])) u3.heap.objs.size X.env = ce := ⟨_, rfl⟩
  have eL : ce.locals = u3.heap.objs.size := by rw [← hce]; rfl
  have eF : ce.frame = X.env.frame := by rw [← hce]; rfl
  rw [hce] at J4 pgt pts pel ⊢
  obtain ⟨K3, hH3⟩ : ∃ K3, upd K2 B (.lst []) = K3 := ⟨_, rfl⟩
  rw [hH3] at J3 J4 pgt pts pel k0 nIts ok3
  obtain ⟨u4, hs4⟩ : ∃ u4 : Shared, ({ u3 with heap := pushCells (u3.heap.push { cls := .type "dict", data := .dict #[] }) scope.names } : Shared) = u4 := ⟨_, rfl⟩
  rw [hs4] at J4 ⊢
  have a4 : atK 0 u4.heap := Tr.keep _ _ _ a3 fun b _ o e => by rw [← hs4]; exact pushCells_keeps _ _ _ _ (Heap.get?_push_of_some _ e)
  have fine : ∀ {σ' : L2.St} {H' : Hp} {s' : Shared}, Inv (X.blk u3 K3 scope ce its) [] σ' H' s' → (∀ b ∈ its, H' b = none) → ∀ b ∈ its, FpOk (X.blk u3 K3 scope ce its) [] H' b := fun {σ' H' s'} Jn ns_ b hb =>
    ⟨ns_ b hb, (Jn.ok.exf b hb).1, Jn.ok.exfs b hb, .inl hb, fun x c e => (Jn.ok.exf b hb).2 x c e, fun p hp => absurd (show p ∈ ([] : List (Addr × Obj)) ++ [] from hp) (by simp)⟩
  have loop : codeAny (model X.prog X.w) X.A (.compLoop (.ListComp elt [⟨tg, iter, ifs, 0⟩] scope pos) 0 (.ref it) (.ref B) ce) (blkEnd (model X.prog X.w) X.A X.xe use Qf (.ref B) ce) u4 := by
    refine compLoop_any (fun n s' => ∃ i H', Inv (X.blk u3 K3 scope ce its) [] (wipe σ (own.map (·.2))) H' s' ∧ atK i s'.heap ∧ (∀ b ∈ its, H' b = none) ∧ Wt i n H') ?_ n0 ⟨0, K3, J4, a4, nIts, k0⟩
    rintro n u5 ⟨i, K5, J5, a5, no5, k5⟩
    rcases turn i n K5 k5 with ⟨stop, zq⟩ | ⟨go, Next, hNext, stepK⟩
    · refine thnF (Tr.done (X.blk u3 K3 scope ce its) rfl rfl rfl hc i [] u5 _ K5 (fun _ _ => False) J5 (fine J5 no5) a5 stop) fun r u6 ⟨hr, J6⟩ => ?_
      subst hr
      have J7 : Inv X pins σ K5 u6 := J3.call' (ch := its) J6.os J6.base J6.hok J6.bare fun b hb => ⟨(ok3 b hb).1.2.2.2.1, (ok3 b hb).1.2.1, (ok3 b hb).1.2.2.2.2.1, (ok3 b hb).1.2.2.2.2.2⟩
      have nL : K5 ce.locals = none := J6.free
      obtain ⟨m, ns_, _⟩ := J6.loc
      have ns_ : u6.heap.Ns ce.locals m := ns_
      exact hRR B ce.locals u6 m K5 J7 zq ns_ (J3.fpOk (by rw [eL]; exact Nat.le_refl _) nL)
    · refine thnF (Tr.item (X.blk u3 K3 scope ce its) rfl rfl rfl hc i [] u5 _ K5 (fun _ _ => False) J5 (fine J5 no5) a5 go) fun r u6 ⟨u, hr, h6⟩ => ?_
      subst hr
      refine thnF h6 fun _ u7 ⟨x, K7, J7, v7, g7, a7, no7⟩ => ?_
      have J7' := J7.pinned (fine J7 no7) (Tr.obj _ _ a7)
      refine thnF (pgt.run _ u7 _ K7 x u _ J7' v7 (stepK x K7 g7)) fun _ u8 ⟨σ8, K8, J8, ew, z8⟩ => ?_
      refine thnF (pts.run _ u8 σ8 K8 _ J8 z8) fun b u9 ⟨K9, J9, z9⟩ => ?_
      have next_ : ∀ {s' : Shared} {H' : Hp}, Inv (X.blk u3 K3 scope ce its) ([] ++ pinsAt its u7.heap) σ8 H' s' → Next H' → ∃ m, m < n ∧ ∃ i H', Inv (X.blk u3 K3 scope ce its) [] (wipe σ (own.map (·.2))) H' s' ∧ atK i s'.heap ∧ (∀ b ∈ its, H' b = none) ∧ Wt i m H' := fun {s' H'} Jn nxt => by
        obtain ⟨l, lm, k'⟩ := hNext H' nxt
        have held : ∀ b ∈ its, ∀ o, u7.heap.get? b = some o → s'.heap.get? b = some o ∧ H' b = none := fun b hb o e =>
          let z := Jn.pin (b, o) (List.mem_append_right _ (List.mem_append_right _ (mem_pinsAt hb e)))
          ⟨z.1, z.2.1⟩
        have eln : (wipe σ (own.map (·.2))).length = σ8.length := by rw [← ew, wipe_length]
        refine ⟨l, lm, i + 1, H', (Jn.unpinned (pins := [])).weak eln (fun j v e => ?_), Tr.keep _ _ _ a7 fun b hb o e => (held b hb o e).1, fun b hb => ?_, k'⟩
        · rw [← ew] at e
          exact (wipe_some e).1
        · obtain ⟨o, e, _⟩ := Tr.obj _ _ a7 b hb
          exact (held b hb o e).2
      cases b with
      | false =>
        simp only [Bool.false_eq_true, if_false] at z9 ⊢
        exact next_ J9 z9
      | true =>
        simp only [if_true] at z9 ⊢
        have pel2 := pel (fun cls d _ H' => W cls d σ H') ([] ++ ([] ++ pinsAt its u7.heap)) (notedBy (model X.prog X.w) X.A ce fun e s' => blkEnd (model X.prog X.w) X.A X.xe use Qf (.ref B) ce (.error e) s')
          (fun u s' x => blk_air hs hf tk J3 (fun b hb => (ok3 b hb).1) eL eF x) PassesOwn.looking
        refine wpAny_mono (pel2.run [] u9 σ8 K9 _ (J9.toTry _) z9) (fun z u10 hz => ?_) fun _ _ z => z
        obtain ⟨yv, K10, J10, v10, ys, lB, sz10, nxt⟩ := hz
        have J10 : Inv (X.blk u3 K3 scope ce its) ([] ++ pinsAt its u7.heap) σ8 K10 u10 := J10.ofTry J9.ok
        exact app_ok (X := X.blk u3 K3 scope ce its) J10 lB sz10 v10 fun u11 J11 => next_ J11 nxt
  exact codeAny_compStart_list loop (Tr.self X.A 0 _ _ _ a4 loop)
end
end DL
/-! comprehensions whose element may raise: what is said of them -/
namespace DL
open PySem PySem.Spec PyProof.Rows L2
variable {K : PySem.W.Frag}
/-- the comprehension, W what is wished of an exception -/
def tLcX (wi : TI) (g : TG) (tt : TT) (te : WX → TE) (vs : List Nat) (W : WX) : TE := fun σ H Q => tLc wi g tt (te fun cls d _ H' => W cls d σ H') vs σ H Q
section
variable {X : Cx} {W : WX} {elt tg iter : Expr} {ifs : List Expr} {scope : Scope} {own : List (Str × Nat)} {pos spos py : Pos} {wi : TI} {g : TG} {tt : TT} {te : WX → TE}
theorem pe_lcX (hs : X.stack = X.env :: X.outer) (hf : X.env.frame = some X.env.locals) (tk : Takes X W) (hc : X.calm = true) (hN : X.N.Nodup) (hi : PI X tg iter wi) (ok : BlkOk X.N X.env.scope scope own)
    (hg : ∀ s H C cl fp, PG (X.blk s H scope (compEnvC scope cl C X.env) fp) tg g) (ht : ∀ s H C cl fp, PTs (X.blk s H scope (compEnvC scope cl C X.env) fp) ifs tt)
    (he : ∀ s H C cl fp (V : WX) (pn : List (Addr × Obj)) (xe : Value → Shared → Prop), Takes ((X.blk s H scope (compEnvC scope cl C X.env) fp).tr pn xe) V → PassesOwn (model X.prog X.w) X.A (compEnvC scope cl C X.env) xe → PE ((X.blk s H scope (compEnvC scope cl C X.env) fp).tr pn xe) elt (te V))
    (hfs : ∀ x, foldedSetIterable iter X.env x = pure x := by intro _; rfl) : PE X (.ListComp elt [⟨tg, iter, ifs, 0⟩] scope pos) (tLcX wi g tt te (own.map (·.2)) W) := by
  refine ⟨fun pins s σ H Q I h => ?_⟩
  rw [eval_ListComp]
  refine lcX_core hs hf tk hc hN I hi ok hg ht he hfs h fun B C u m H' J q hn f => ⟨m, hn, fun g' sb => ?_⟩
  obtain ⟨a0, a1, a2, a3, a4, a5⟩ := f
  exact ⟨.ref B, H', J.turned (t' := u.toks) (fun b o hb e => by rw [sb.2 b hb]; exact e) a0 a1 a3 a4 a5, rfl, q⟩
theorem ps_setLcX {i : Nat} {y : Str} (hs : X.stack = X.env :: X.outer) (hf : X.env.frame = some X.env.locals) (tk : Takes X W) (hc : X.calm = true) (hN : X.N.Nodup) (hy : X.N[i]? = some y) (hyl : X.env.scope.names.lookup y = some .local)
    (hsw : swapsWith (.ListComp elt [⟨tg, iter, ifs, 0⟩] scope pos) (some (.Name y py)) spos.line X.env = pure true) (hi : PI X tg iter wi) (ok : BlkOk X.N X.env.scope scope own)
    (hg : ∀ s H C cl fp, PG (X.blk s H scope (compEnvC scope cl C X.env) fp) tg g) (ht : ∀ s H C cl fp, PTs (X.blk s H scope (compEnvC scope cl C X.env) fp) ifs tt)
    (he : ∀ s H C cl fp (V : WX) (pn : List (Addr × Obj)) (xe : Value → Shared → Prop), Takes ((X.blk s H scope (compEnvC scope cl C X.env) fp).tr pn xe) V → PassesOwn (model X.prog X.w) X.A (compEnvC scope cl C X.env) xe → PE ((X.blk s H scope (compEnvC scope cl C X.env) fp).tr pn xe) elt (te V))
    (hfs : ∀ x, foldedSetIterable iter X.env x = pure x := by intro _; rfl) : PS X (.Assign [.Name y py] (.ListComp elt [⟨tg, iter, ifs, 0⟩] scope pos) spos) (tAsg (tLcX wi g tt te (own.map (·.2)) W) (gName i)) := by
  refine ⟨fun pins s σ H D I h => ?_⟩
  rw [exec_Assign_Name_used _ _ _ _ hsw]
  refine wpAny_bind (wpAny_standAt (wpAny_bind ?_))
  show wpAny _ X.A (do let _ ← comprehension (.ListComp elt [⟨tg, iter, ifs, 0⟩] scope pos) scope X.env (firstIterPos [⟨tg, iter, ifs, 0⟩] pos) (newList []) false (eval iter X.env) (some (assign (.Name y py) X.env))) _ _ s
  have h : tLc wi g tt (te fun cls d _ H' => W cls d σ H') (own.map (·.2)) σ H (fun x K1 => gName i x σ K1 D.nx) := h
  refine wpAny_bind (thn (lcX_core (Qf := fun _ u => SP X pins D .next u) hs hf tk hc hN I hi ok hg ht he hfs h fun B C u m H' J q hn f => ?_) fun _ u hq => wpAny_pure (wpAny_pure hq))
  show wpAny _ _ (assign (.Name y py) X.env (.ref B)) _ _ _
  refine wpAny_assign_Name (store_ok2 (v := V.ref B) J hN hy (.inl hyl) rfl (fun u2 J2 ⟨a, sb, ha⟩ => ?_) (.inr hyl))
  obtain ⟨a0, a1, a2, a3, a4, a5⟩ := f
  have ne : C ≠ a := by
    rcases ha with z | z
    · rw [z]; exact a1
    · exact fun e => a4 y a z e.symm
  refine ⟨m, hn.sameBut sb ne, fun g3 sb3 => ?_⟩
  exact ⟨_, H', J2.turned (t' := u2.toks) (fun b o hb e => by rw [sb3.2 b hb]; exact e) a0 a1 a3 a4 a5, q⟩
end
def lcLX (g : DG) (t : DT) (e : DE) (ρ : List Sl) (κ : Rv → Prop) (ε : Str → Prop) (acc : List Dat) : List Dat → Prop
  | [] => κ (.n acc)
  | d :: ds => g (.v d) ρ (fun ρ1 => t ρ1 (fun b => if b = true then e ρ1 (fun r => match frz1 r with
    | some x => acc.length < sizeLine ∧ lcLX g t e ρ κ ε (acc ++ [x]) ds
    | none => False) ε else lcLX g t e ρ κ ε acc ds) (fun _ => False))
/-- [..], an exception of the element goes on -/
def dLcX (i : DI) (g : DG) (t : DT) (e : DE) (vs : List Nat) : DE := fun ρ κ ε => i ρ (fun ds => lcLX g t e (wipeS ρ vs) κ ε [] ds) ε
theorem eok_lcX {mg : MG} {W : WX} {wi : TI} {g : TG} {tt : TT} {te : WX → TE} {vs is : List Nat} {di : DI} {dg : DG} {dt : DT} {de : DE} (hi : IOk K true mg W wi di) (hg : GOk K g is dg) (ht : TOk K mg W0 tt dt) (he : ∀ V, EOk K mg V (te V) de) (hv : ∀ i ∈ is, i ∈ vs) :
    EOk K mg W (tLcX wi g tt te vs W) (dLcX di dg dt de vs) := by
  intro H0 G0 G ρ σ H Q κ ε R h hq hx
  refine hi H0 G0 G ρ σ H _ _ ε R h (fun J H1 G1 ds x1 hj hk => ?_) hx
  have hj : ItOk K J ds H1 G1 := hj
  intro D nD
  have x0 := Ext.newH (o := HO.lst []) x1.s nD
  have nDH : H D = none := x1.h.free nD
  have nDG : G1 D = none := x1.s.free nD
  refine ⟨fun i m H' => ∃ (acc : List Dat) (vacc : List V) (G' : Hp), Ext H G H' G' ∧ Ext H1 G1 H' G' ∧ H' D = some (.lst vacc) ∧ RdL K G' acc vacc ∧ G' D = none ∧ m = ds.length - i ∧ lcLX dg dt de (wipeS ρ vs) κ ε acc (ds.drop i),
    ⟨ds.length, [], [], G1, x1.trans x0, x0, upd_same, RdL.nil, nDG, rfl, by simpa using hk⟩, ?_⟩
  rintro i m H' ⟨acc, vacc, G', xs, xn, hD, rD, gD, rfl, hl⟩
  by_cases hlt : i < ds.length
  · refine .inr ⟨hj.go i H' xn.h (xn.g.trans xn.s) hlt, fun H2 => ∃ (acc : List Dat) (vacc : List V) (G' : Hp), Ext H G H2 G' ∧ Ext H1 G1 H2 G' ∧ H2 D = some (.lst vacc) ∧ RdL K G' acc vacc ∧ G' D = none ∧ lcLX dg dt de (wipeS ρ vs) κ ε acc (ds.drop (i + 1)),
      fun H2 ⟨a, b, c, h1, h2, h3, h4, h5, h6⟩ => ⟨ds.length - (i + 1), by omega, a, b, c, h1, h2, h3, h4, h5, rfl, h6⟩, fun x H2 hy => ?_⟩
    have hd : ds[i]? = some ds[i] := List.getElem?_eq_getElem hlt
    obtain ⟨G2, x2, r2⟩ := hj.yld i H' x H2 G' _ xn.h xn.g xn.s hd hy
    rw [List.drop_eq_getElem_cons hlt] at hl
    have Rw := (R.on xs).wipe vs
    refine hg H0 G0 G' G2 _ _ H' H2 (.v ds[i]) x _ _ Rw x2 r2 hl fun ρ3 σ3 R3 t3 k3 => ?_
    refine ⟨wipe_tch t3 hv, ?_⟩
    refine ht H0 G0 G2 ρ3 σ3 H2 _ _ _ R3 k3 (fun b H3 G3 x3 hb => ?_) XOk.none
    have xs3 := (xs.trans x2).trans x3
    have xn3 := (xn.trans x2).trans x3
    have gD3 : G3 D = none := (x2.trans x3).f D (by rw [hD]; exact fun z => nomatch z) gD
    by_cases hbb : b = true
    · rw [if_pos hbb] at hb ⊢
      refine he _ H0 G0 G3 ρ3 σ3 H3 _ _ _ (R3.on x3) hb (fun y H4 G4 r x4 hr k4 => ?_) fun nm cls H' G' x hm k => hx nm cls H' G' (xs3.trans x) hm k
      split at k4
      · rename_i z ez
        obtain ⟨G5, x5, s5, r5⟩ := frz1_ok (Same.refl G4) x4 hr ez
        have hD3 := x3.h _ _ (x2.h _ _ hD)
        have hD4 : H4 D = some (.lst vacc) := x4.h _ _ hD3
        have gD5 : G5 D = none := x5.f D (by rw [hD3]; exact fun z => nomatch z) gD3
        refine ⟨vacc, hD4, by rw [← rD.len]; exact k4.1, ?_⟩
        have xs5 := xs3.trans x5
        have xn5 := xn3.trans x5
        have wr : ∀ {A : Hp}, Same A H4 → A D = none → Same A (upd H4 D (.lst (vacc ++ [y]))) := fun s n b o hb' => by
          rw [upd_ne (fun z => by rw [z, n] at hb'; exact nomatch hb')]
          exact s _ _ hb'
        refine ⟨acc ++ [z], vacc ++ [y], G5, ⟨wr xs5.h nDH, xs5.g, wr xs5.s gD5, xs5.f⟩, ⟨wr xn5.h nD, xn5.g, wr xn5.s gD5, xn5.f⟩, upd_same, ?_, gD5, k4.2⟩
        exact (rD.mono ((x2.g.trans x3.g).trans x5.g)).append (RdL.cons r5 RdL.nil)
      · exact k4.elim
    · rw [if_neg hbb] at hb ⊢
      exact ⟨acc, vacc, G3, xs3, xn3, x3.h _ _ (x2.h _ _ hD), rD.mono (x2.g.trans x3.g), gD3, hb⟩
  · refine .inl ⟨hj.stop i H' xn.h (xn.g.trans xn.s) (by omega), ?_⟩
    rw [List.drop_eq_nil_of_le (by omega)] at hl
    exact hq (.ref D) H' G' (.n acc) xs ⟨D, vacc, rfl, hD, rD, nDH, gD⟩ hl
section
variable {X : Cx} {W : WX} {elt tg iter : Expr} {ifs : List Expr} {scope : Scope} {own : List (Str × Nat)} {is : List Nat} {di : DI} {dg : DG} {dt : DT} {de : DE} {pos : Pos}
abbrev EltX (X : Cx) (scope : Scope) (elt : Expr) (de : DE) : Prop := ∀ (f : BlkT) (V : WX) (pn : List (Addr × Obj)) (xe : Value → Shared → Prop), Takes ((blkX X scope f).tr pn xe) V → PassesOwn (model X.prog X.w) X.A (blkX X scope f).env xe → ME ((blkX X scope f).tr pn xe) V elt de
theorem blk_eX (h : EltX X scope elt de) : ∃ te : WX → TE, (∀ (f : BlkT) (V : WX) (pn : List (Addr × Obj)) (xe : Value → Shared → Prop), Takes ((blkX X scope f).tr pn xe) V → PassesOwn (model X.prog X.w) X.A (blkX X scope f).env xe → PE ((blkX X scope f).tr pn xe) elt (te V)) ∧ ∀ V, EOk X.K X.mg V (te V) de := by
  refine ⟨fun V σ H Q => ∀ f pn xe t, Takes ((blkX X scope f).tr pn xe) V → PassesOwn (model X.prog X.w) X.A (blkX X scope f).env xe → PE ((blkX X scope f).tr pn xe) elt t → EOk X.K X.mg V t de → t σ H Q, fun f V pn xe tk po => ?_,
    fun V H0 G0 G ρ σ H Q κ ε R h1 hq hx f pn xe t _ _ _ ok => ok H0 G0 G ρ σ H Q κ ε R h1 hq hx⟩
  obtain ⟨t, pe, ok⟩ := h f V pn xe tk po
  exact ⟨fun pins s σ H Q I q => pe.run pins s σ H Q I (q f pn xe t tk po pe ok)⟩
theorem lcX_all {k : Nat} (C : Cn X W k) (hi : MI X W true tg iter di) (hv : ∀ i ∈ is, i ∈ own.map (·.2)) (hg : ∀ f, MG1 (blkX X scope f) tg is dg) (ht : ∀ f, MTs (blkX X scope f) W0 ifs dt) (he : EltX X scope elt de) :
    ∃ wi g tt, ∃ te : WX → TE, PI X tg iter wi ∧ (∀ s H C cl fp, PG (X.blk s H scope (compEnvC scope cl C X.env) fp) tg g) ∧ (∀ s H C cl fp, PTs (X.blk s H scope (compEnvC scope cl C X.env) fp) ifs tt) ∧
      (∀ s H C cl fp (V : WX) (pn : List (Addr × Obj)) (xe : Value → Shared → Prop), Takes ((X.blk s H scope (compEnvC scope cl C X.env) fp).tr pn xe) V → PassesOwn (model X.prog X.w) X.A (compEnvC scope cl C X.env) xe → PE ((X.blk s H scope (compEnvC scope cl C X.env) fp).tr pn xe) elt (te V)) ∧
      EOk X.K X.mg W (tLcX wi g tt te (own.map (·.2)) W) (dLcX di dg dt de (own.map (·.2))) := by
  obtain ⟨wi, pi, oi⟩ := hi
  obtain ⟨g, pg, og⟩ := blk_g (K := X.K) (Y := blkX X scope) (fun _ => rfl) hg
  obtain ⟨tt, pt, ot⟩ := blk_t (K := X.K) (Y := blkX X scope) (mg := X.mg) (fun _ => rfl) (fun _ => rfl) ht
  obtain ⟨te, pe, oe⟩ := blk_eX he
  exact ⟨wi, g, tt, te, pi, fun s H C cl fp => pg (s, H, C, cl, fp), fun s H C cl fp => pt (s, H, C, cl, fp), fun s H C cl fp => pe (s, H, C, cl, fp), eok_lcX oi og ot oe hv⟩
theorem me_lcX {k : Nat} (hs : X.stack = X.env :: X.outer) (hf : X.env.frame = some X.env.locals) (C : Cn X W k) (hi : MI X W true tg iter di) (ok : BlkOk X.N X.env.scope scope own) (hg : ∀ f, MG1 (blkX X scope f) tg is dg) (ht : ∀ f, MTs (blkX X scope f) W0 ifs dt) (he : EltX X scope elt de)
    (hv : ∀ i ∈ is, i ∈ own.map (·.2) := by decide) (hfs : ∀ x, foldedSetIterable iter X.env x = pure x := by intro _; rfl) : ME X W (.ListComp elt [⟨tg, iter, ifs, 0⟩] scope pos) (dLcX di dg dt de (own.map (·.2))) := by
  obtain ⟨wi, g, tt, te, h1, h2, h3, h4, h5⟩ := lcX_all C hi hv hg ht he
  exact ⟨_, pe_lcX hs hf C.tk C.hc C.nd h1 ok h2 h3 h4 hfs, h5⟩
theorem ms_setLcX {k : Nat} (i : Nat) {y : Str} {py spos : Pos} (hs : X.stack = X.env :: X.outer) (hf : X.env.frame = some X.env.locals) (C : Cn X W k) (hi : MI X W true tg iter di) (ok : BlkOk X.N X.env.scope scope own) (hg : ∀ f, MG1 (blkX X scope f) tg is dg) (ht : ∀ f, MTs (blkX X scope f) W0 ifs dt) (he : EltX X scope elt de)
    (hsw : swapsWith (.ListComp elt [⟨tg, iter, ifs, 0⟩] scope pos) (some (.Name y py)) spos.line X.env = pure true) (hy : X.N[i]? = some y := by rfl) (hyl : X.env.scope.names.lookup y = some .local := by rfl) (hv : ∀ i ∈ is, i ∈ own.map (·.2) := by decide) (hfs : ∀ x, foldedSetIterable iter X.env x = pure x := by intro _; rfl) :
    MS X W (.Assign [.Name y py] (.ListComp elt [⟨tg, iter, ifs, 0⟩] scope pos) spos) (sAsg (dLcX di dg dt de (own.map (·.2))) (gN i)) := by
  obtain ⟨wi, g, tt, te, h1, h2, h3, h4, h5⟩ := lcX_all C hi hv hg ht he
  refine ⟨_, ps_setLcX hs hf C.tk C.hc C.nd hy hyl hsw h1 ok h2 h3 h4 hfs, fun H0 G0 G ρ σ H D κ R h E => ?_⟩
  refine h5 H0 G0 G ρ σ H _ _ _ R h (fun v H' G' r x hr k => ?_) (E.xok R)
  unfold gN at k
  split at k
  · rename_i s e
    exact E.nx _ _ _ _ (R.store x hr e i) k
  · exact k.elim
end
theorem lcX_at {g : DG} {t : DT} {e : DE} {ρ : List Sl} {κ : Rv → Prop} {ε : Str → Prop} (ds : List Dat) (I : Nat → List Dat → Prop)
    (step : ∀ (i : Nat) (d : Dat) (acc : List Dat) (N : List Dat → Prop), ds[i]? = some d → I i acc → (∀ acc', I (i + 1) acc' → N acc') →
      g (.v d) ρ (fun ρ1 => t ρ1 (fun b => if b = true then e ρ1 (fun r => match frz1 r with
        | some x => acc.length < sizeLine ∧ N (acc ++ [x])
        | none => False) ε else N acc) (fun _ => False))) (fin : ∀ acc, I ds.length acc → κ (.n acc)) :
    ∀ (k i : Nat) (acc : List Dat), i + k = ds.length → I i acc → lcLX g t e ρ κ ε acc (ds.drop i)
  | 0, i, acc, hk, h => by
    have e : i = ds.length := by omega
    rw [e, List.drop_length]
    rw [e] at h
    exact fin acc h
  | k + 1, i, acc, hk, h => by
    have hi : i < ds.length := by omega
    rw [List.drop_eq_getElem_cons hi]
    exact step i _ acc _ (List.getElem?_eq_getElem hi) h fun acc' h' => lcX_at ds I step fin k (i + 1) acc' (by omega) h'
theorem lcX_ind {g : DG} {t : DT} {e : DE} {ρ : List Sl} {κ : Rv → Prop} {ε : Str → Prop} {ds : List Dat} (I : Nat → List Dat → Prop) (h0 : I 0 [])
    (step : ∀ (i : Nat) (d : Dat) (acc : List Dat) (N : List Dat → Prop), ds[i]? = some d → I i acc → (∀ acc', I (i + 1) acc' → N acc') →
      g (.v d) ρ (fun ρ1 => t ρ1 (fun b => if b = true then e ρ1 (fun r => match frz1 r with
        | some x => acc.length < sizeLine ∧ N (acc ++ [x])
        | none => False) ε else N acc) (fun _ => False))) (fin : ∀ acc, I ds.length acc → κ (.n acc)) : lcLX g t e ρ κ ε [] ds := by
  have := lcX_at ds I step fin ds.length 0 [] (by omega) h0
  simpa using this
/-- an element for each item; or an exception at one -/
theorem lcX_map {α : Type} {f h : α → Dat} {g : DG} {e : DE} {ρ : List Sl} {κ : Rv → Prop} {ε : Str → Prop} {xs : List α} (hl : xs.length ≤ 100000)
    (step : ∀ (i : Nat) (x : α) (N : Rv → Prop), xs[i]? = some x → (N (.v (h x))) → g (.v (f x)) ρ (fun ρ1 => e ρ1 N ε)) (k : κ (.n (xs.map h))) : lcLX g tYesD e ρ κ ε [] (xs.map f) := by
  refine lcX_ind (fun i acc => acc = (xs.take i).map h) rfl (fun i d acc N hd ha hn => ?_) fun acc ha => ?_
  · rw [List.getElem?_map] at hd
    obtain ⟨x, hx, rfl⟩ := Option.map_eq_some_iff.mp hd
    have hi : i < xs.length := by
      by_cases y : i < xs.length
      · exact y
      · rw [List.getElem?_eq_none (by omega)] at hx; exact nomatch hx
    refine step i x _ hx ?_
    refine ⟨sz_ok (by rw [ha, List.length_map, List.length_take]; omega), hn _ ?_⟩
    rw [ha, List.take_add_one, hx, List.map_append]; rfl
  · rw [List.length_map, List.take_length] at ha
    rw [ha]; exact k
/-- the first item's element raises -/
theorem lcX_raise {g : DG} {e : DE} {ρ : List Sl} {κ : Rv → Prop} {ε : Str → Prop} {d : Dat} {ds : List Dat} (h : ∀ N : Rv → Prop, g (.v d) ρ (fun ρ1 => e ρ1 N ε)) : lcLX g tYesD e ρ κ ε [] (d :: ds) := h _
end DL
/-! what divides two numbers -/
namespace Num
theorem gcd_fmod (a b : Int) : Int.gcd b (a.fmod b) = Int.gcd a b := by
  have e := Int.mul_fdiv_add_fmod a b
  refine Nat.dvd_antisymm ?_ ?_
  · refine Nat.dvd_gcd ?_ ?_
    · have h : ((Int.gcd b (a.fmod b) : Nat) : Int) ∣ b * a.fdiv b + a.fmod b := Int.dvd_add (Int.dvd_mul_of_dvd_left (Int.gcd_dvd_left _ _)) (Int.gcd_dvd_right _ _)
      rw [e] at h
      exact Int.ofNat_dvd_left.mp h
    · exact Int.ofNat_dvd_left.mp (Int.gcd_dvd_left _ _)
  · refine Nat.dvd_gcd ?_ ?_
    · exact Int.ofNat_dvd_left.mp (Int.gcd_dvd_right _ _)
    · refine Int.ofNat_dvd_left.mp ?_
      have : a.fmod b = a - b * a.fdiv b := by omega
      rw [this]
      exact Int.dvd_sub (Int.gcd_dvd_left _ _) (Int.dvd_mul_of_dvd_left (Int.gcd_dvd_right _ _))
theorem fmod_lt (a : Int) {b : Int} (h : b ≠ 0) : (a.fmod b).natAbs < b.natAbs := by
  rcases Int.lt_or_le 0 b with z | z
  · have h1 := Int.fmod_nonneg_of_pos a z
    have h2 := Int.fmod_lt_of_pos a z
    omega
  · have h1 := Int.fmod_nonneg_of_pos (-a) (show 0 < -b by omega)
    have h2 := Int.fmod_lt_of_pos (-a) (show 0 < -b by omega)
    have e1 := Int.mul_fdiv_add_fmod a b
    have e2 := Int.mul_fdiv_add_fmod (-a) (-b)
    rw [Int.neg_fdiv_neg, Int.neg_mul] at e2
    omega
theorem bez : ∀ (n : Nat) (a b : Int), b.natAbs < n → ∃ s t : Int, s * a + t * b = ((Int.gcd a b : Nat) : Int)
  | 0, a, b, h => (Nat.not_lt_zero _ h).elim
  | n + 1, a, b, h => by
    by_cases hb : b = 0
    · subst hb
      rw [Int.gcd_zero_right]
      rcases Int.le_total 0 a with z | z
      · exact ⟨1, 0, by omega⟩
      · exact ⟨-1, 0, by omega⟩
    · obtain ⟨s, t, e⟩ := bez n b (a.fmod b) (by have := fmod_lt a hb; omega)
      rw [gcd_fmod] at e
      refine ⟨t, s - t * a.fdiv b, ?_⟩
      have e2 := Int.mul_fdiv_add_fmod a b
      have : a.fmod b = a - b * a.fdiv b := by omega
      rw [this] at e
      rw [← e]; grind
theorem bezout (a b : Int) : ∃ s t : Int, s * a + t * b = ((Int.gcd a b : Nat) : Int) := bez (b.natAbs + 1) a b (by omega)
theorem gcd_pos (a : Int) {m : Int} (hm : m ≠ 0) : 0 < ((Int.gcd a m : Nat) : Int) := by
  have := Int.gcd_pos_of_ne_zero_right a hm
  omega
theorem gcd_ok (a : Int) {m : Int} (hm : 0 < m) : ∃ s t : Int, s * a + t * m = ((Int.gcd a m : Nat) : Int) ∧ 0 < ((Int.gcd a m : Nat) : Int) ∧ ((Int.gcd a m : Nat) : Int) ∣ a ∧ ((Int.gcd a m : Nat) : Int) ∣ m := by
  obtain ⟨s, t, e⟩ := bezout a m
  exact ⟨s, t, e, gcd_pos a (by omega), Int.gcd_dvd_left _ _, Int.gcd_dvd_right _ _⟩
open DL
structure Shares (a b g s t : Int) : Prop where
  g0 : 0 ≤ g
  e : s * a + t * b = g
  ga : g ∣ a
  gb : g ∣ b
  z : b = 0 → t = 0 ∧ s = (if a < 0 then -1 else if 0 < a then 1 else 0)
  nz : b ≠ 0 → 0 < g ∧ 0 ≤ s ∧ s < (b.natAbs : Int) / g
theorem abs_mul {x y : Int} : (x * y).natAbs = x.natAbs * y.natAbs := Int.natAbs_mul x y
theorem Shares.bt {a b g s t : Int} {k : Nat} (h : Shares a b g s t) (ha : Bt k a) (hb : Bt k b) (hk : 0 < k) : Bt k g ∧ Bt k s ∧ Bt (k + 1) t := by
  by_cases hz : b = 0
  · obtain ⟨h1, h2⟩ := h.z hz
    have hs : s.natAbs ≤ 1 := by rw [h2]; split <;> (try split) <;> decide
    have hg : g = s * a := by rw [← h.e, h1, hz]; simp
    refine ⟨ha.le_abs ?_, ?_, ?_⟩
    · rw [hg, abs_mul]
      have := Nat.mul_le_mul_right a.natAbs hs
      omega
    · rw [Bt.def]
      have : 2 ^ 1 ≤ 2 ^ k := Nat.pow_le_pow_right (by decide) hk
      omega
    · rw [h1, Bt.def]; exact Nat.pow_pos (by decide)
  · obtain ⟨g1, s0, s1⟩ := h.nz hz
    have hgb : g.natAbs ≤ b.natAbs := Nat.le_of_dvd (by omega) (Int.natAbs_dvd_natAbs.mpr h.gb)
    have hs : s.natAbs ≤ b.natAbs := by
      have : (b.natAbs : Int) / g ≤ b.natAbs := Int.ediv_le_self _ (by omega)
      omega
    refine ⟨hb.le_abs hgb, hb.le_abs hs, ?_⟩
    have e : t * b = g - s * a := by have := h.e; omega
    have e2 : t.natAbs * b.natAbs ≤ b.natAbs * (1 + a.natAbs) := by
      rw [← abs_mul, e]
      have h1 := Int.natAbs_sub_le g (s * a)
      rw [abs_mul] at h1
      have h2 := Nat.mul_le_mul_right a.natAbs hs
      rw [Nat.mul_add, Nat.mul_one]
      omega
    have e3 : t.natAbs ≤ 1 + a.natAbs := by
      rw [Nat.mul_comm] at e2
      exact Nat.le_of_mul_le_mul_left e2 (by omega)
    rw [Bt.def] at ha ⊢
    rw [Nat.pow_succ]
    have : 0 < 2 ^ k := Nat.pow_pos (by decide)
    omega
theorem Shares.uniq {a b g s t g' s' t' : Int} (h : Shares a b g s t) (h' : Shares a b g' s' t') : g = g' ∧ s = s' ∧ t = t' := by
  have e := h.e
  have e' := h'.e
  have g1 : g ∣ g' := by rw [← e']; exact Int.dvd_add (Int.dvd_mul_of_dvd_right h.ga) (Int.dvd_mul_of_dvd_right h.gb)
  have g2 : g' ∣ g := by rw [← e]; exact Int.dvd_add (Int.dvd_mul_of_dvd_right h'.ga) (Int.dvd_mul_of_dvd_right h'.gb)
  have gg : g = g' := Int.dvd_antisymm h.g0 h'.g0 g1 g2
  subst gg
  by_cases hb : b = 0
  · obtain ⟨z1, z2⟩ := h.z hb
    obtain ⟨z3, z4⟩ := h'.z hb
    exact ⟨rfl, by rw [z2, z4], by rw [z1, z3]⟩
  · obtain ⟨g0, s0, s1⟩ := h.nz hb
    obtain ⟨_, s0', s1'⟩ := h'.nz hb
    obtain ⟨A, eA⟩ := h.ga
    obtain ⟨B, eB⟩ := h.gb
    have eB' : (b.natAbs : Int) / g = B.natAbs := by
      have : (b.natAbs : Int) = g * (B.natAbs : Int) := by rw [eB, Int.natAbs_mul, Int.natCast_mul]; congr 1; omega
      rw [this, Int.mul_ediv_cancel_left _ (Int.ne_of_gt g0)]
    have one : s * A + t * B = 1 := by
      have : g * (s * A + t * B) = g * 1 := by rw [Int.mul_one]; conv => rhs; rw [← e, eA, eB]
                                               grind
      exact Int.eq_of_mul_eq_mul_left (Int.ne_of_gt g0) this
    have zero : (s - s') * A + (t - t') * B = 0 := by
      have : g * ((s - s') * A + (t - t') * B) = g * 0 := by
        have e1 : s * (g * A) + t * (g * B) = s' * (g * A) + t' * (g * B) := by rw [← eA, ← eB, e, e']
        grind
      exact Int.eq_of_mul_eq_mul_left (Int.ne_of_gt g0) this
    have dv : B ∣ s - s' := ⟨(s - s') * t - s * (t - t'), by grind⟩
    have hs : s = s' := by
      have d2 : B.natAbs ∣ (s - s').natAbs := Int.natAbs_dvd_natAbs.mpr dv
      rw [eB'] at s1 s1'
      have : (s - s').natAbs = 0 := Nat.eq_zero_of_dvd_of_lt d2 (by omega)
      omega
    refine ⟨rfl, hs, ?_⟩
    have : t * b = t' * b := by rw [hs] at e; omega
    exact Int.eq_of_mul_eq_mul_right hb this
theorem shares_ex (a b : Int) : ∃ p : Int × Int × Int, Shares a b p.1 p.2.1 p.2.2 := by
  obtain ⟨s0, t0, e⟩ := bezout a b
  by_cases hb : b = 0
  · subst hb
    rw [Int.gcd_zero_right] at e
    rcases Int.lt_trichotomy a 0 with h | h | h
    · exact ⟨(-a, -1, 0), by show 0 ≤ -a; omega, by show -1 * a + 0 * 0 = -a; omega, ⟨-1, by show a = -a * -1; omega⟩, ⟨0, by show (0 : Int) = -a * 0; omega⟩, fun _ => ⟨rfl, by show (-1 : Int) = _; rw [if_pos h]⟩, fun z => absurd rfl z⟩
    · exact ⟨(0, 0, 0), by show (0 : Int) ≤ 0; omega, by show 0 * a + 0 * 0 = 0; omega, ⟨0, by show a = 0 * 0; omega⟩, ⟨0, rfl⟩, fun _ => ⟨rfl, by show (0 : Int) = _; rw [if_neg (by omega), if_neg (by omega)]⟩, fun z => absurd rfl z⟩
    · exact ⟨(a, 1, 0), by show 0 ≤ a; omega, by show 1 * a + 0 * 0 = a; omega, ⟨1, by show a = a * 1; omega⟩, ⟨0, by show (0 : Int) = a * 0; omega⟩, fun _ => ⟨rfl, by show (1 : Int) = _; rw [if_neg (by omega), if_pos h]⟩, fun z => absurd rfl z⟩
  · have g0 := gcd_pos a hb
    have ga : ((Int.gcd a b : Nat) : Int) ∣ a := Int.gcd_dvd_left _ _
    have gb : ((Int.gcd a b : Nat) : Int) ∣ b := Int.gcd_dvd_right _ _
    generalize ((Int.gcd a b : Nat) : Int) = g at *
    obtain ⟨A, eA⟩ := ga
    obtain ⟨B, eB⟩ := gb
    have hB : B ≠ 0 := fun z => hb (by rw [eB, z, Int.mul_zero])
    have eB' : (b.natAbs : Int) / g = B.natAbs := by
      have : (b.natAbs : Int) = g * (B.natAbs : Int) := by rw [eB, Int.natAbs_mul, Int.natCast_mul]; congr 1; omega
      rw [this, Int.mul_ediv_cancel_left _ (Int.ne_of_gt g0)]
    have m0 : (0 : Int) < B.natAbs := by omega
    have em := Int.mul_ediv_add_emod s0 (B.natAbs : Int)
    obtain ⟨σ, hσ⟩ : ∃ σ : Int, (B.natAbs : Int) = σ * B := by
      rcases Int.le_total 0 B with z | z
      · exact ⟨1, by omega⟩
      · exact ⟨-1, by omega⟩
    refine ⟨(g, s0 % B.natAbs, t0 + (s0 / B.natAbs) * σ * A), Int.le_of_lt g0, ?_, ⟨A, eA⟩, ⟨B, eB⟩, fun z => absurd z hb, fun _ => ⟨g0, Int.emod_nonneg _ (by omega), by show s0 % _ < (b.natAbs : Int) / g; rw [eB']; exact Int.emod_lt_of_pos _ m0⟩⟩
    show s0 % B.natAbs * a + (t0 + (s0 / B.natAbs) * σ * A) * b = g
    rw [← e]
    generalize s0 / (B.natAbs : Int) = q at *
    generalize s0 % (B.natAbs : Int) = r at *
    rw [hσ] at em
    rw [← em, eA, eB]
    grind
/-- the shares of two numbers -/
noncomputable def sh (a b : Int) : Int × Int × Int := Classical.choose (shares_ex a b)
theorem sh_ok (a b : Int) : Shares a b (sh a b).1 (sh a b).2.1 (sh a b).2.2 := Classical.choose_spec (shares_ex a b)
theorem Shares.eq {a b g s t : Int} (h : Shares a b g s t) : sh a b = (g, s, t) := by
  obtain ⟨h1, h2, h3⟩ := (sh_ok a b).uniq h
  exact Prod.ext h1 (Prod.ext h2 h3)
theorem Shares.gcd {a b g s t : Int} (h : Shares a b g s t) : g = ((Int.gcd a b : Nat) : Int) := by
  refine Int.dvd_antisymm h.g0 (by omega) (Int.dvd_coe_gcd h.ga h.gb) ?_
  rw [← h.e]
  exact Int.dvd_add (Int.dvd_mul_of_dvd_right (Int.gcd_dvd_left _ _)) (Int.dvd_mul_of_dvd_right (Int.gcd_dvd_right _ _))
end Num
/-! lists of points, equal or not -/
namespace DL
open PySem PySem.Spec PyProof.Rows L2
theorem shp_ptsL (n : Nat) : ∀ ps : List Pt, shpL (n + 1) (ps.map pt) = true
  | [] => rfl
  | p :: ps => by show (shp (n + 1) (pt p) && shpL (n + 1) (ps.map pt)) = true; rw [shp_ptsL n ps]; rfl
theorem shp_pts (n : Nat) (ps : List Pt) : shp (n + 2) (.lst (ps.map pt)) = true := shp_ptsL n ps
theorem eqD_pt (p q : Pt) : eqD (pt p) (pt q) = decide (p = q) := by
  obtain ⟨a, b⟩ := p
  obtain ⟨c, d⟩ := q
  rw [Bool.eq_iff_iff, decide_eq_true_iff]
  simp [pt, eqD, eqDL, Prod.mk.injEq]
theorem eqDL_pts : ∀ ps qs : List Pt, eqDL (ps.map pt) (qs.map pt) = decide (ps = qs)
  | [], [] => by unfold eqDL; rfl
  | [], q :: qs => by rw [List.map_nil, List.map_cons]; unfold eqDL; simp
  | p :: ps, [] => by rw [List.map_nil, List.map_cons]; unfold eqDL; simp
  | p :: ps, q :: qs => by
    rw [List.map_cons, List.map_cons]
    unfold eqDL
    rw [eqD_pt, eqDL_pts ps qs, Bool.eq_iff_iff]
    simp
theorem eqD_pts (ps qs : List Pt) : eqD (.lst (ps.map pt)) (.lst (qs.map pt)) = decide (ps = qs) := by
  unfold eqD
  exact eqDL_pts ps qs
theorem ifPt {p q : Pt} {A B : Prop} (h1 : p = q → A) (h2 : p ≠ q → B) : if eqD (pt p) (pt q) = true then A else B := by
  rw [eqD_pt]; exact ifd h1 h2
theorem ifPtNe {p q : Pt} {A B : Prop} (h1 : p ≠ q → A) (h2 : p = q → B) : if (!eqD (pt p) (pt q)) = true then A else B := by
  rw [eqD_pt]
  by_cases h : p = q
  · rw [decide_eq_true h, if_neg (by decide)]; exact h2 h
  · rw [decide_eq_false h, if_pos (by decide)]; exact h1 h
theorem ifPts {p q : List Pt} {A B : Prop} (h1 : p = q → A) (h2 : p ≠ q → B) : if eqD (.lst (p.map pt)) (.lst (q.map pt)) = true then A else B := by
  rw [eqD_pts]; exact ifd h1 h2
theorem ifPtsNe {p q : List Pt} {A B : Prop} (h1 : p ≠ q → A) (h2 : p = q → B) : if (!eqD (.lst (p.map pt)) (.lst (q.map pt))) = true then A else B := by
  rw [eqD_pts]
  by_cases h : p = q
  · rw [decide_eq_true h, if_neg (by decide)]; exact h2 h
  · rw [decide_eq_false h, if_pos (by decide)]; exact h1 h
theorem onS_at {l : List Dat} {r j : Int} {d : Dat} {k : Dat → Prop} (e : r = j) (h : atI l j = some d) (q : k d) : onS (atI l r) k := by rw [e]; exact onS_some h q
/-- a place by what is left over -/
theorem onS_mod {l : List Dat} {b n : Int} {k : Dat → Prop} (hn : (l.length : Int) = n) (h0 : 0 < n) (h : ∀ d ∈ l, k d) : onS (atI l (b % n)) k := by
  subst hn
  have h1 := Int.emod_nonneg b (Int.ne_of_gt h0)
  have h2 := Int.emod_lt_of_pos b h0
  have hj : (b % (l.length : Int)).toNat < l.length := by omega
  refine onS_at (j := ((b % (l.length : Int)).toNat : Int)) (by omega) (atI_nat (List.getElem?_eq_getElem hj)) (h _ (List.getElem_mem hj))
end DL
/-! moves -/
namespace Mov
open DL PySem
structure Mv where
  a : Int
  b : Int
  c : Int
  d : Int
  e : Int
  f : Int
def mv (m : Mv) : Dat := .tup [.int m.a, .int m.b, .int m.c, .int m.d, .int m.e, .int m.f]
def det (m : Mv) : Int := m.a * m.d - m.b * m.c
def act (m : Mv) (p : Pt) : Pt := (m.a * p.1 + m.b * p.2 + m.e, m.c * p.1 + m.d * p.2 + m.f)
/-- first, then second -/
def thn (m n : Mv) : Mv := ⟨n.a * m.a + n.b * m.c, n.a * m.b + n.b * m.d, n.c * m.a + n.d * m.c, n.c * m.b + n.d * m.d, n.a * m.e + n.b * m.f + n.e, n.c * m.e + n.d * m.f + n.f⟩
def back (m : Mv) : Mv := ⟨det m * m.d, -det m * m.b, -det m * m.c, det m * m.a, det m * (m.b * m.f - m.d * m.e), det m * (m.c * m.e - m.a * m.f)⟩
def IsMv (m : Mv) : Prop := det m = 1 ∨ det m = -1
instance (m : Mv) : Decidable (IsMv m) := by unfold IsMv; infer_instance
structure BM (k : Nat) (m : Mv) : Prop where
  a : Bt k m.a
  b : Bt k m.b
  c : Bt k m.c
  d : Bt k m.d
  e : Bt k m.e
  f : Bt k m.f
theorem BM.mono {k l : Nat} {m : Mv} (h : BM k m) (hl : k ≤ l) : BM l m := ⟨h.a.mono hl, h.b.mono hl, h.c.mono hl, h.d.mono hl, h.e.mono hl, h.f.mono hl⟩
theorem act_thn (m n : Mv) (p : Pt) : act (thn m n) p = act n (act m p) := by
  refine Prod.ext ?_ ?_
  · show (n.a * m.a + n.b * m.c) * p.1 + (n.a * m.b + n.b * m.d) * p.2 + (n.a * m.e + n.b * m.f + n.e) = n.a * (m.a * p.1 + m.b * p.2 + m.e) + n.b * (m.c * p.1 + m.d * p.2 + m.f) + n.e
    grind
  · show (n.c * m.a + n.d * m.c) * p.1 + (n.c * m.b + n.d * m.d) * p.2 + (n.c * m.e + n.d * m.f + n.f) = n.c * (m.a * p.1 + m.b * p.2 + m.e) + n.d * (m.c * p.1 + m.d * p.2 + m.f) + n.f
    grind
theorem det_thn (m n : Mv) : det (thn m n) = det m * det n := by
  show (n.a * m.a + n.b * m.c) * (n.c * m.b + n.d * m.d) - (n.a * m.b + n.b * m.d) * (n.c * m.a + n.d * m.c) = (m.a * m.d - m.b * m.c) * (n.a * n.d - n.b * n.c)
  grind
theorem IsMv.thn {m n : Mv} (h : IsMv m) (h' : IsMv n) : IsMv (thn m n) := by
  unfold IsMv
  rw [det_thn]
  rcases h with h | h <;> rcases h' with h' | h' <;> rw [h, h'] <;> decide
theorem IsMv.sq {m : Mv} (h : IsMv m) : det m * det m = 1 := by
  rcases h with h | h <;> rw [h] <;> rfl
theorem det_back {m : Mv} (h : IsMv m) : det (back m) = det m := by
  show det m * m.d * (det m * m.a) - -det m * m.b * (-det m * m.c) = det m
  have h2 := h.sq
  have : m.a * m.d - m.b * m.c = det m := rfl
  generalize det m = D at *
  have : D * m.d * (D * m.a) - -D * m.b * (-D * m.c) = (D * D) * (m.a * m.d - m.b * m.c) := by grind
  rw [this, h2]; omega
theorem IsMv.back {m : Mv} (h : IsMv m) : IsMv (back m) := by
  unfold IsMv; rw [det_back h]; exact h
theorem back_act {m : Mv} (h : IsMv m) (p : Pt) : act (back m) (act m p) = p := by
  have h2 := h.sq
  have e : m.a * m.d - m.b * m.c = det m := rfl
  refine Prod.ext ?_ ?_
  · show det m * m.d * (m.a * p.1 + m.b * p.2 + m.e) + -det m * m.b * (m.c * p.1 + m.d * p.2 + m.f) + det m * (m.b * m.f - m.d * m.e) = p.1
    generalize det m = D at *
    have : D * m.d * (m.a * p.1 + m.b * p.2 + m.e) + -D * m.b * (m.c * p.1 + m.d * p.2 + m.f) + D * (m.b * m.f - m.d * m.e) = D * (m.a * m.d - m.b * m.c) * p.1 := by grind
    rw [this, e, h2]; omega
  · show -det m * m.c * (m.a * p.1 + m.b * p.2 + m.e) + det m * m.a * (m.c * p.1 + m.d * p.2 + m.f) + det m * (m.c * m.e - m.a * m.f) = p.2
    generalize det m = D at *
    have : -D * m.c * (m.a * p.1 + m.b * p.2 + m.e) + D * m.a * (m.c * p.1 + m.d * p.2 + m.f) + D * (m.c * m.e - m.a * m.f) = D * (m.a * m.d - m.b * m.c) * p.2 := by grind
    rw [this, e, h2]; omega
theorem act_back {m : Mv} (h : IsMv m) (p : Pt) : act m (act (back m) p) = p := by
  have h2 := h.sq
  have e : m.a * m.d - m.b * m.c = det m := rfl
  refine Prod.ext ?_ ?_
  · show m.a * (det m * m.d * p.1 + -det m * m.b * p.2 + det m * (m.b * m.f - m.d * m.e)) + m.b * (-det m * m.c * p.1 + det m * m.a * p.2 + det m * (m.c * m.e - m.a * m.f)) + m.e = p.1
    generalize det m = D at *
    have : m.a * (D * m.d * p.1 + -D * m.b * p.2 + D * (m.b * m.f - m.d * m.e)) + m.b * (-D * m.c * p.1 + D * m.a * p.2 + D * (m.c * m.e - m.a * m.f)) + m.e = D * (m.a * m.d - m.b * m.c) * (p.1 - m.e) + m.e := by grind
    rw [this, e, h2]; omega
  · show m.c * (det m * m.d * p.1 + -det m * m.b * p.2 + det m * (m.b * m.f - m.d * m.e)) + m.d * (-det m * m.c * p.1 + det m * m.a * p.2 + det m * (m.c * m.e - m.a * m.f)) + m.f = p.2
    generalize det m = D at *
    have : m.c * (D * m.d * p.1 + -D * m.b * p.2 + D * (m.b * m.f - m.d * m.e)) + m.d * (-D * m.c * p.1 + D * m.a * p.2 + D * (m.c * m.e - m.a * m.f)) + m.f = D * (m.a * m.d - m.b * m.c) * (p.2 - m.f) + m.f := by grind
    rw [this, e, h2]; omega
/-- a move is told by where it takes three points -/
theorem mv_three {m n : Mv} (h0 : act m (0, 0) = act n (0, 0)) (h1 : act m (1, 0) = act n (1, 0)) (h2 : act m (0, 1) = act n (0, 1)) : m = n := by
  obtain ⟨a, b, c, d, e, f⟩ := m
  obtain ⟨a', b', c', d', e', f'⟩ := n
  unfold act at h0 h1 h2
  simp only [Prod.mk.injEq] at h0 h1 h2
  simp only [Mv.mk.injEq]
  omega
theorem act_inj {m : Mv} (h : IsMv m) {p q : Pt} (e : act m p = act m q) : p = q := by
  rw [← back_act h p, e, back_act h q]
/-- what a thing is, asked whether it is a move -/
def isInt : Dat → Bool
  | .int _ => true
  | _ => false
def mvB : Dat → Bool
  | .tup [.int a, .int b, .int c, .int d, _, _] => decide (a * d - b * c = 1 ∨ a * d - b * c = -1)
  | _ => false
/-- six numbers -/
def sixB : Dat → Bool
  | .tup [.int _, .int _, .int _, .int _, .int _, .int _] => true
  | _ => false
def moveB (d : Dat) : Bool := sixB d && mvB d
theorem moveB_mv (m : Mv) : moveB (mv m) = decide (IsMv m) := by
  show (true && decide (m.a * m.d - m.b * m.c = 1 ∨ m.a * m.d - m.b * m.c = -1)) = _
  rw [Bool.true_and]
  rfl
theorem six_of {d : Dat} (h : sixB d = true) : ∃ m, d = mv m := by
  unfold sixB at h
  split at h
  · exact ⟨⟨_, _, _, _, _, _⟩, rfl⟩
  · exact nomatch h
theorem act_bp {j k : Nat} {m : Mv} {p : Pt} (hm : BM j m) (hp : BP k p) : BP (j + k + 2) (act m p) := by
  have h := hp.x
  have h' := hp.y
  refine ⟨?_, ?_⟩
  · refine (((hm.a.mul h).add (hm.b.mul h')).add hm.e).mono ?_; omega
  · refine (((hm.c.mul h).add (hm.d.mul h')).add hm.f).mono ?_; omega
theorem thn_bm {j k : Nat} {m n : Mv} (hm : BM j m) (hn : BM k n) : BM (j + k + 2) (thn m n) := by
  refine ⟨?_, ?_, ?_, ?_, ?_, ?_⟩
  · refine ((hn.a.mul hm.a).add (hn.b.mul hm.c)).mono ?_; omega
  · refine ((hn.a.mul hm.b).add (hn.b.mul hm.d)).mono ?_; omega
  · refine ((hn.c.mul hm.a).add (hn.d.mul hm.c)).mono ?_; omega
  · refine ((hn.c.mul hm.b).add (hn.d.mul hm.d)).mono ?_; omega
  · refine (((hn.a.mul hm.e).add (hn.b.mul hm.f)).add hn.e).mono ?_; omega
  · refine (((hn.c.mul hm.e).add (hn.d.mul hm.f)).add hn.f).mono ?_; omega
theorem back_bm {j : Nat} {m : Mv} (hm : BM j m) (h : IsMv m) : BM (j + j + 3) (back m) := by
  have b1 : Bt 2 (det m) := by rcases h with h | h <;> rw [h] <;> exact Bt.lit (by decide)
  have b2 : Bt 2 (-det m) := b1.neg
  refine ⟨(b1.mul hm.d).mono (by omega), (b2.mul hm.b).mono (by omega), (b2.mul hm.c).mono (by omega), (b1.mul hm.a).mono (by omega), (b1.mul ((hm.b.mul hm.f).sub (hm.d.mul hm.e))).mono (by omega), (b1.mul ((hm.c.mul hm.e).sub (hm.a.mul hm.f))).mono (by omega)⟩
/-- one behind the other by three points -/
theorem thn_pts (m n : Mv) : thn m n = ⟨(act n (act m (1, 0))).1 - (act n (act m (0, 0))).1, (act n (act m (0, 1))).1 - (act n (act m (0, 0))).1, (act n (act m (1, 0))).2 - (act n (act m (0, 0))).2, (act n (act m (0, 1))).2 - (act n (act m (0, 0))).2, (act n (act m (0, 0))).1, (act n (act m (0, 0))).2⟩ := by
  unfold thn act
  simp only [Mv.mk.injEq]
  refine ⟨?_, ?_, ?_, ?_, ?_, ?_⟩ <;> grind
/-! ### a level -/
@[irreducible] def gd (p q : Pt) : Int := ((Int.gcd (q.1 - p.1) (q.2 - p.2) : Nat) : Int)
@[irreducible] noncomputable def lv (p q : Pt) : Mv :=
  let u := (q.1 - p.1) / gd p q
  let v := (q.2 - p.2) / gd p q
  let w := Num.sh u v
  ⟨w.2.1, w.2.2, -v, u, -w.2.1 * p.1 - w.2.2 * p.2, v * p.1 - u * p.2⟩
theorem sh_gd (p q : Pt) : (Num.sh (q.1 - p.1) (q.2 - p.2)).1 = gd p q := by unfold gd; exact (Num.sh_ok (q.1 - p.1) (q.2 - p.2)).gcd
theorem lv_def (p q : Pt) : lv p q = ⟨(Num.sh ((q.1 - p.1) / gd p q) ((q.2 - p.2) / gd p q)).2.1, (Num.sh ((q.1 - p.1) / gd p q) ((q.2 - p.2) / gd p q)).2.2, -((q.2 - p.2) / gd p q), (q.1 - p.1) / gd p q, -(Num.sh ((q.1 - p.1) / gd p q) ((q.2 - p.2) / gd p q)).2.1 * p.1 - (Num.sh ((q.1 - p.1) / gd p q) ((q.2 - p.2) / gd p q)).2.2 * p.2, ((q.2 - p.2) / gd p q) * p.1 - ((q.1 - p.1) / gd p q) * p.2⟩ := by unfold lv; rfl
theorem gd_pos {p q : Pt} (h : p ≠ q) : 0 < gd p q := by
  unfold gd
  by_cases h1 : q.2 - p.2 = 0
  · have h2 : q.1 - p.1 ≠ 0 := fun z => h (Prod.ext (by omega) (by omega))
    have := Int.gcd_pos_of_ne_zero_left (q.2 - p.2) h2
    omega
  · have := Int.gcd_pos_of_ne_zero_right (q.1 - p.1) h1
    omega
theorem gd_one {p q : Pt} (h : gd p q ≠ 0) : p ≠ q := fun e => by subst e; apply h; unfold gd; simp
theorem gd_u (p q : Pt) : gd p q ∣ q.1 - p.1 := by unfold gd; exact Int.gcd_dvd_left _ _
theorem gd_v (p q : Pt) : gd p q ∣ q.2 - p.2 := by unfold gd; exact Int.gcd_dvd_right _ _
/-- what is known of it -/
structure Lv (p q : Pt) (m : Mv) (g u v s t : Int) : Prop where
  em : m = ⟨s, t, -v, u, -s * p.1 - t * p.2, v * p.1 - u * p.2⟩
  g0 : 0 < g
  eu : q.1 - p.1 = g * u
  ev : q.2 - p.2 = g * v
  one : s * u + t * v = 1
  z : v = 0 → t = 0 ∧ s = u
  nz : v ≠ 0 → 0 ≤ s ∧ s < v.natAbs
theorem lv_ok {p q : Pt} (h : p ≠ q) : ∃ s t, Lv p q (lv p q) (gd p q) ((q.1 - p.1) / gd p q) ((q.2 - p.2) / gd p q) s t ∧ s = (Num.sh ((q.1 - p.1) / gd p q) ((q.2 - p.2) / gd p q)).2.1 ∧ t = (Num.sh ((q.1 - p.1) / gd p q) ((q.2 - p.2) / gd p q)).2.2 := by
  have g0 := gd_pos h
  have h1 := Int.mul_ediv_cancel' (gd_u p q)
  have h2 := Int.mul_ediv_cancel' (gd_v p q)
  have hs := Num.sh_ok ((q.1 - p.1) / gd p q) ((q.2 - p.2) / gd p q)
  refine ⟨_, _, ?_, rfl, rfl⟩
  have hm := lv_def p q
  have hgg : (Num.sh ((q.1 - p.1) / gd p q) ((q.2 - p.2) / gd p q)).1 = 1 := by
    rw [hs.gcd]
    have e := Int.gcd_ediv (gd_u p q) (gd_v p q)
    rw [e]
    have : (Int.gcd (q.1 - p.1) (q.2 - p.2)) / (gd p q).natAbs = 1 := by
      unfold gd
      rw [Int.natAbs_natCast]
      refine Nat.div_self ?_
      unfold gd at g0
      omega
    omega
  rw [hgg] at hs
  generalize (q.1 - p.1) / gd p q = u at *
  generalize (q.2 - p.2) / gd p q = v at *
  refine ⟨hm, g0, h1.symm, h2.symm, hs.e, fun z => ?_, fun z => ?_⟩
  · obtain ⟨z1, z2⟩ := hs.z z
    refine ⟨z1, ?_⟩
    have e := hs.e
    rw [z1, Int.zero_mul, Int.add_zero] at e
    rcases Int.lt_trichotomy u 0 with w | w | w
    · rw [if_pos w] at z2; rw [z2] at e ⊢; omega
    · rw [if_neg (by omega), if_neg (by omega)] at z2; rw [z2] at e; omega
    · rw [if_neg (by omega), if_pos w] at z2; rw [z2] at e ⊢; omega
  · obtain ⟨z1, z2, z3⟩ := hs.nz z
    exact ⟨z2, by rw [Int.ediv_one] at z3; exact z3⟩
theorem Lv.mv {p q : Pt} {m : Mv} {g u v s t : Int} (h : Lv p q m g u v s t) : det m = 1 := by
  rw [h.em]; show s * u - t * -v = 1
  have := h.one
  rw [Int.mul_neg]; omega
theorem Lv.at0 {p q : Pt} {m : Mv} {g u v s t : Int} (h : Lv p q m g u v s t) : act m p = (0, 0) := by
  rw [h.em]
  refine Prod.ext ?_ ?_
  · show s * p.1 + t * p.2 + (-s * p.1 - t * p.2) = 0; grind
  · show -v * p.1 + u * p.2 + (v * p.1 - u * p.2) = 0; grind
theorem Lv.at1 {p q : Pt} {m : Mv} {g u v s t : Int} (h : Lv p q m g u v s t) : act m q = (g, 0) := by
  have e1 := h.eu
  have e2 := h.ev
  have e3 := h.one
  rw [h.em]
  refine Prod.ext ?_ ?_
  · show s * q.1 + t * q.2 + (-s * p.1 - t * p.2) = g
    have : s * q.1 + t * q.2 + (-s * p.1 - t * p.2) = s * (q.1 - p.1) + t * (q.2 - p.2) := by grind
    rw [this, e1, e2]
    have : s * (g * u) + t * (g * v) = g * (s * u + t * v) := by grind
    rw [this, e3, Int.mul_one]
  · show -v * q.1 + u * q.2 + (v * p.1 - u * p.2) = 0
    have : -v * q.1 + u * q.2 + (v * p.1 - u * p.2) = u * (q.2 - p.2) - v * (q.1 - p.1) := by grind
    rw [this, e1, e2]; grind
theorem gd_bt {k : Nat} {p q : Pt} (hp : BP k p) (hq : BP k q) (h : p ≠ q) : Bt (k + 1) (gd p q) := by
  have b1 := (hq.x.sub hp.x).mono (l := k + 1) (by omega)
  have b2 := (hq.y.sub hp.y).mono (l := k + 1) (by omega)
  by_cases z : q.2 - p.2 = 0
  · have z2 : q.1 - p.1 ≠ 0 := fun z' => h (Prod.ext (by omega) (by omega))
    exact b1.le_abs (Nat.le_of_dvd (by omega) (Int.natAbs_dvd_natAbs.mpr (gd_u p q)))
  · exact b2.le_abs (Nat.le_of_dvd (by omega) (Int.natAbs_dvd_natAbs.mpr (gd_v p q)))
theorem lv_bm {k : Nat} {p q : Pt} (hp : BP k p) (hq : BP k q) (h : p ≠ q) : BM (k + k + 4) (lv p q) := by
  obtain ⟨s, t, L, es, et⟩ := lv_ok h
  have b1 := (hq.x.sub hp.x).mono (l := k + 1) (by omega) |>.ediv (m := gd p q)
  have b2 := (hq.y.sub hp.y).mono (l := k + 1) (by omega) |>.ediv (m := gd p q)
  obtain ⟨bg, bs, bt⟩ := (Num.sh_ok ((q.1 - p.1) / gd p q) ((q.2 - p.2) / gd p q)).bt b1 b2 (by omega)
  rw [← es] at bs
  rw [← et] at bt
  rw [L.em]
  exact ⟨bs.mono (by omega), bt.mono (by omega), b2.neg.mono (by omega), b1.mono (by omega), ((bs.neg.mul hp.x).sub (bt.mul hp.y)).mono (by omega), ((b2.mul hp.x).sub (b1.mul hp.y)).mono (by omega)⟩
theorem gd_dvd (m : Mv) (p q : Pt) : gd p q ∣ gd (act m p) (act m q) := by
  have h1 := gd_u p q
  have h2 := gd_v p q
  have e1 : (act m q).1 - (act m p).1 = m.a * (q.1 - p.1) + m.b * (q.2 - p.2) := by unfold act; grind
  have e2 : (act m q).2 - (act m p).2 = m.c * (q.1 - p.1) + m.d * (q.2 - p.2) := by unfold act; grind
  have d1 : gd p q ∣ (act m q).1 - (act m p).1 := by rw [e1]; exact Int.dvd_add (Int.dvd_mul_of_dvd_right h1) (Int.dvd_mul_of_dvd_right h2)
  have d2 : gd p q ∣ (act m q).2 - (act m p).2 := by rw [e2]; exact Int.dvd_add (Int.dvd_mul_of_dvd_right h1) (Int.dvd_mul_of_dvd_right h2)
  have := Int.dvd_coe_gcd d1 d2
  unfold gd at *
  exact this
theorem gd_nonneg (p q : Pt) : 0 ≤ gd p q := by unfold gd; omega
theorem gd_act {m : Mv} (h : IsMv m) (p q : Pt) : gd (act m p) (act m q) = gd p q := by
  refine Int.dvd_antisymm (gd_nonneg _ _) (gd_nonneg _ _) ?_ (gd_dvd m p q)
  have := gd_dvd (back m) (act m p) (act m q)
  rwa [back_act h, back_act h] at this
/-- a move is told by what it does behind another one -/
theorem thn_cancel {f m n : Mv} (h : IsMv f) (e : thn f m = thn f n) : m = n := by
  have k : ∀ q, act m q = act n q := fun q => by
    have : act m (act f (act (back f) q)) = act n (act f (act (back f) q)) := by rw [← act_thn f m, ← act_thn f n, e]
    rwa [act_back h] at this
  exact mv_three (k _) (k _) (k _)
theorem thn_assoc (l m n : Mv) : thn (thn l m) n = thn l (thn m n) := by
  refine mv_three ?_ ?_ ?_ <;> simp only [act_thn]
theorem thn_back {m : Mv} (h : IsMv m) (f : Mv) : thn (thn f m) (back m) = f := by
  refine mv_three ?_ ?_ ?_ <;> simp only [act_thn, back_act h]
theorem eqD_mv (m : Mv) : eqD (mv m) (mv m) = true := by simp [mv, eqD, eqDL]
/-- of a level: where the third point lies -/
theorem lv_third {f : Mv} (h : IsMv f) : ∃ l : Mv, l = lv (act f (0, 0)) (act f (1, 0)) ∧ det l = 1 ∧ act l (act f (0, 0)) = (0, 0) ∧ act l (act f (1, 0)) = (1, 0) ∧ ((act l (act f (0, 1))).2 = 1 ∨ (act l (act f (0, 1))).2 = -1) ∧ act f (0, 0) ≠ act f (1, 0) := by
  have hne : act f (0, 0) ≠ act f (1, 0) := fun e => by
    have := act_inj h e
    simp at this
  have g1 : gd (act f (0, 0)) (act f (1, 0)) = 1 := by
    rw [gd_act h]; unfold gd; rfl
  obtain ⟨s, t, L, _, _⟩ := lv_ok hne
  have a0 := L.at0
  have a1 := L.at1
  have d := L.mv
  rw [g1] at a1
  refine ⟨_, rfl, d, a0, a1, ?_, hne⟩
  generalize lv (act f (0, 0)) (act f (1, 0)) = l at *
  have hd : det (thn f l) = 1 ∨ det (thn f l) = -1 := h.thn (.inl d)
  rw [← act_thn] at a0 a1 ⊢
  generalize thn f l = n at *
  unfold act at a0 a1 ⊢
  unfold det at hd
  simp only [Prod.mk.injEq] at a0 a1
  show n.c * 0 + n.d * 1 + n.f = 1 ∨ n.c * 0 + n.d * 1 + n.f = -1
  have e1 : n.a = 1 := by omega
  have e2 : n.c = 0 := by omega
  rw [e1, e2] at hd
  omega
/-- the slope between two that leave the first two points -/
theorem slope_ok {P Q : Pt} (hP : P.2 = 1 ∨ P.2 = -1) (hQ : Q.2 = 1 ∨ Q.2 = -1) : IsMv ⟨1, (Q.1 - P.1) * P.2, 0, Q.2 * P.2, 0, 0⟩ ∧ act ⟨1, (Q.1 - P.1) * P.2, 0, Q.2 * P.2, 0, 0⟩ (0, 0) = (0, 0) ∧ act ⟨1, (Q.1 - P.1) * P.2, 0, Q.2 * P.2, 0, 0⟩ (1, 0) = (1, 0) ∧ act ⟨1, (Q.1 - P.1) * P.2, 0, Q.2 * P.2, 0, 0⟩ P = Q := by
  obtain ⟨x, y⟩ := P
  obtain ⟨z, w⟩ := Q
  dsimp only at hP hQ
  unfold IsMv det act
  rcases hP with rfl | rfl <;> rcases hQ with rfl | rfl <;> (refine ⟨?_, ?_, ?_, ?_⟩) <;> (try simp only [Prod.mk.injEq]) <;> omega
/-- found back -/
theorem found_back {f m : Mv} (hf : IsMv f) (hm : IsMv m) {l l' s : Mv} (hl : IsMv l) (hl' : IsMv l') (h0 : act l (act f (0, 0)) = (0, 0)) (h1 : act l (act f (1, 0)) = (1, 0)) (h0' : act l' (act m (act f (0, 0))) = (0, 0)) (h1' : act l' (act m (act f (1, 0))) = (1, 0)) (s0 : act s (0, 0) = (0, 0)) (s1 : act s (1, 0) = (1, 0)) (s2 : act s (act l (act f (0, 1))) = act l' (act m (act f (0, 1)))) : thn (thn l s) (back l') = m := by
  have e : thn (thn f l) s = thn (thn f m) l' := by
    refine mv_three ?_ ?_ ?_ <;> simp only [act_thn]
    · rw [h0, s0, h0']
    · rw [h1, s1, h1']
    · exact s2
  refine thn_cancel hf ?_
  rw [← thn_assoc, ← thn_assoc, e, thn_back hl']
theorem mv_pts (M : Mv) : mv M = .tup [.int ((act M (1, 0)).1 - (act M (0, 0)).1), .int ((act M (0, 1)).1 - (act M (0, 0)).1), .int ((act M (1, 0)).2 - (act M (0, 0)).2), .int ((act M (0, 1)).2 - (act M (0, 0)).2), .int (act M (0, 0)).1, .int (act M (0, 0)).2] := by
  unfold mv act
  simp only [Dat.tup.injEq, List.cons.injEq, Dat.int.injEq]
  refine ⟨?_, ?_, ?_, ?_, ?_, ?_, trivial⟩ <;> grind
theorem bm_pts {k : Nat} {M : Mv} (h0 : BP k (act M (0, 0))) (h1 : BP k (act M (1, 0))) (h2 : BP k (act M (0, 1))) : BM (k + 1) M := by
  have e := mv_pts M
  unfold mv at e
  simp only [Dat.tup.injEq, List.cons.injEq, Dat.int.injEq] at e
  obtain ⟨ea, eb, ec, ed, ee, ef, _⟩ := e
  refine ⟨?_, ?_, ?_, ?_, ?_, ?_⟩
  · rw [ea]; exact (h1.x.sub h0.x).mono (by omega)
  · rw [eb]; exact (h2.x.sub h0.x).mono (by omega)
  · rw [ec]; exact (h1.y.sub h0.y).mono (by omega)
  · rw [ed]; exact (h2.y.sub h0.y).mono (by omega)
  · rw [ee]; exact h0.x.mono (by omega)
  · rw [ef]; exact h0.y.mono (by omega)
/-- a move of small slopes -/
theorem act_small {k : Nat} {m : Mv} {p : Pt} (ha : Bt 4 m.a) (hb : Bt 4 m.b) (hc : Bt 4 m.c) (hd : Bt 4 m.d) (he : Bt 72 m.e) (hf : Bt 72 m.f) (hp : BP k p) (hk : 72 ≤ k) : BP (k + 6) (act m p) := by
  have h := hp.x
  have h' := hp.y
  refine ⟨?_, ?_⟩
  · refine (((ha.mul h).add (hb.mul h')).add he).mono ?_; omega
  · refine (((hc.mul h).add (hd.mul h')).add hf).mono ?_; omega
def three : List Pt := [(0, 0), (1, 0), (0, 1)]
theorem maps_thn (m n : Mv) (ps : List Pt) : (ps.map (act m)).map (act n) = ps.map (act (thn m n)) := by
  rw [List.map_map]
  exact List.map_congr_left fun p _ => (act_thn m n p).symm
end Mov
/-! the hand of three points -/
namespace Hull
open DL PySem
/-- what two ways from a point span -/
def span (P Q R : Pt) : Int := (Q.1 - P.1) * (R.2 - P.2) - (Q.2 - P.2) * (R.1 - P.1)
def turn (P Q R : Pt) : Int := if (Q.1 - P.1) * (R.2 - P.2) > (Q.2 - P.2) * (R.1 - P.1) then 1 else if (Q.1 - P.1) * (R.2 - P.2) < (Q.2 - P.2) * (R.1 - P.1) then -1 else 0
theorem turn_pos {P Q R : Pt} : turn P Q R = 1 ↔ 0 < span P Q R := by
  unfold turn span
  split
  · omega
  · split <;> omega
theorem turn_neg {P Q R : Pt} : turn P Q R = -1 ↔ span P Q R < 0 := by
  unfold turn span
  split
  · omega
  · split <;> omega
theorem turn_zero {P Q R : Pt} : turn P Q R = 0 ↔ span P Q R = 0 := by
  unfold turn span
  split
  · omega
  · split <;> omega
theorem turn_le {P Q R : Pt} : turn P Q R ≤ 0 ↔ span P Q R ≤ 0 := by
  unfold turn span
  split
  · omega
  · split <;> omega
end Hull
/-! corners by sorting and walking -/
namespace Hull
open DL PySem PySem.Spec PyProof.Rows L2
instance (p q : Pt) : Decidable (LtP p q) := by unfold LtP; infer_instance
theorem ltp_irr (p : Pt) : ¬ LtP p p := by unfold LtP; omega
theorem ltp_tr {p q r : Pt} (h : LtP p q) (h' : LtP q r) : LtP p r := by unfold LtP at *; omega
theorem ltp_tot {p q : Pt} (h : p ≠ q) : LtP p q ∨ LtP q p := by
  unfold LtP
  by_cases h1 : p.1 = q.1
  · have : p.2 ≠ q.2 := fun e => h (Prod.ext h1 e)
    omega
  · omega
def ins (p : Pt) : List Pt → List Pt
  | [] => [p]
  | q :: r => if p = q then q :: r else if LtP p q then p :: q :: r else q :: ins p r
def srt (ps : List Pt) : List Pt := ps.foldr ins []
theorem mem_ins (p x : Pt) : ∀ l : List Pt, x ∈ ins p l ↔ x = p ∨ x ∈ l
  | [] => by simp [ins]
  | q :: r => by
    unfold ins
    split
    · rename_i e; subst e; simp
    · split
      · simp
      · rw [List.mem_cons, mem_ins p x r, List.mem_cons]
        constructor
        · rintro (h | h | h) <;> simp [h]
        · rintro (h | h | h) <;> simp [h]
theorem pw_ins (p : Pt) : ∀ l : List Pt, l.Pairwise LtP → (ins p l).Pairwise LtP
  | [], _ => by simp [ins]
  | q :: r, h => by
    rw [List.pairwise_cons] at h
    unfold ins
    split
    · exact List.pairwise_cons.mpr h
    · rename_i ne
      split
      · rename_i lt
        refine List.pairwise_cons.mpr ⟨fun x hx => ?_, List.pairwise_cons.mpr h⟩
        rcases List.mem_cons.mp hx with rfl | hx
        · exact lt
        · exact ltp_tr lt (h.1 x hx)
      · rename_i nl
        refine List.pairwise_cons.mpr ⟨fun x hx => ?_, pw_ins p r h.2⟩
        rcases (mem_ins p x r).mp hx with rfl | hx
        · exact (ltp_tot ne).resolve_left nl
        · exact h.1 x hx
theorem mem_srt (ps : List Pt) (x : Pt) : x ∈ srt ps ↔ x ∈ ps := by
  unfold srt
  induction ps with
  | nil => simp
  | cons p ps ih => rw [List.foldr_cons, mem_ins, ih, List.mem_cons]
theorem pw_srt (ps : List Pt) : (srt ps).Pairwise LtP := by
  unfold srt
  induction ps with
  | nil => simp
  | cons p ps ih => rw [List.foldr_cons]; exact pw_ins p _ ih
theorem pw_uniq : ∀ {l m : List Pt}, l.Pairwise LtP → m.Pairwise LtP → (∀ x, x ∈ l ↔ x ∈ m) → l = m
  | [], [], _, _, _ => rfl
  | [], q :: m, _, _, h => absurd ((h q).mpr (by simp)) (by simp)
  | p :: l, [], _, _, h => absurd ((h p).mp (by simp)) (by simp)
  | p :: l, q :: m, hl, hm, h => by
    rw [List.pairwise_cons] at hl hm
    have e : p = q := by
      have h1 := (h p).mp (by simp)
      have h2 := (h q).mpr (by simp)
      rcases List.mem_cons.mp h1 with e | h1
      · exact e
      · rcases List.mem_cons.mp h2 with e | h2
        · exact e.symm
        · exact absurd (ltp_tr (hl.1 q h2) (hm.1 p h1)) (ltp_irr p)
    subst e
    rw [pw_uniq hl.2 hm.2 fun x => ?_]
    constructor
    · intro hx
      rcases List.mem_cons.mp ((h x).mp (List.mem_cons_of_mem _ hx)) with e | hx'
      · subst e; exact absurd (hl.1 x hx) (ltp_irr x)
      · exact hx'
    · intro hx
      rcases List.mem_cons.mp ((h x).mpr (List.mem_cons_of_mem _ hx)) with e | hx'
      · subst e; exact absurd (hm.1 x hx) (ltp_irr x)
      · exact hx'
theorem srt_uniq {L ps : List Pt} (h : L.Pairwise LtP) (hm : ∀ p, p ∈ L ↔ p ∈ ps) : L = srt ps := pw_uniq h (pw_srt ps) fun x => (hm x).trans (mem_srt ps x).symm
theorem srt_congr {ps qs : List Pt} (h : ∀ p, p ∈ ps ↔ p ∈ qs) : srt ps = srt qs := srt_uniq (pw_srt ps) fun p => (mem_srt ps p).trans (h p)
theorem ins_len (p : Pt) : ∀ l : List Pt, (ins p l).length ≤ l.length + 1
  | [] => by simp [ins]
  | q :: r => by
    unfold ins
    split
    · simp
    · split
      · simp
      · have := ins_len p r
        simp only [List.length_cons]; omega
theorem srt_len (ps : List Pt) : (srt ps).length ≤ ps.length := by
  unfold srt
  induction ps with
  | nil => simp
  | cons p ps ih =>
    rw [List.foldr_cons]
    have := ins_len p (ps.foldr ins [])
    rw [List.length_cons]; omega
/-- take away from the top while the turn is not to the left -/
def popd : List Pt → Pt → List Pt
  | b :: a :: r, p => if span a b p ≤ 0 then popd (a :: r) p else b :: a :: r
  | s, _ => s
def push (s : List Pt) (p : Pt) : List Pt := p :: popd s p
def stk (ps : List Pt) : List Pt := ps.foldl push []
def half (ps : List Pt) : List Pt := (stk ps).reverse
def hull (ps : List Pt) : List Pt := if (srt ps).length = 1 then srt ps else (half (srt ps)).dropLast ++ (half (srt ps).reverse).dropLast
theorem popd_mem (p : Pt) : ∀ (s : List Pt), ∀ x ∈ popd s p, x ∈ s
  | [], x, h => h
  | [a], x, h => h
  | b :: a :: r, x, h => by
    unfold popd at h
    split at h
    · exact List.mem_cons_of_mem _ (popd_mem p (a :: r) x h)
    · exact h
theorem popd_len (p : Pt) : ∀ (s : List Pt), (popd s p).length ≤ s.length
  | [] => Nat.le_refl _
  | [a] => Nat.le_refl _
  | b :: a :: r => by
    unfold popd
    split
    · have := popd_len p (a :: r)
      simp only [List.length_cons] at *; omega
    · exact Nat.le_refl _
theorem stk_snoc (ps : List Pt) (p : Pt) : stk (ps ++ [p]) = push (stk ps) p := by unfold stk; rw [List.foldl_append]; rfl
theorem stk_take {ps : List Pt} {i : Nat} {p : Pt} (h : ps[i]? = some p) : stk (ps.take (i + 1)) = push (stk (ps.take i)) p := by
  rw [List.take_add_one, h]; exact stk_snoc _ p
theorem foldl_push (P : Pt → Prop) : ∀ (ps s : List Pt), (∀ x ∈ s, P x) → (∀ x ∈ ps, P x) → (∀ x ∈ ps.foldl push s, P x) ∧ (ps.foldl push s).length ≤ s.length + ps.length
  | [], s, hs, _ => ⟨hs, by simp⟩
  | p :: ps, s, hs, hp => by
    have h := foldl_push P ps (push s p) (fun x hx => by
      rcases List.mem_cons.mp hx with rfl | hx
      · exact hp _ (by simp)
      · exact hs x (popd_mem p s x hx)) (fun x hx => hp x (by simp [hx]))
    refine ⟨h.1, ?_⟩
    have h2 := popd_len p s
    have h3 : (push s p).length = (popd s p).length + 1 := rfl
    have := h.2
    rw [List.foldl_cons, List.length_cons]; omega
theorem half_all {P : Pt → Prop} {ps : List Pt} (h : ∀ x ∈ ps, P x) : (∀ x ∈ half ps, P x) ∧ (half ps).length ≤ ps.length := by
  have := foldl_push P ps [] (by simp) h
  unfold half
  refine ⟨fun x hx => this.1 x (List.mem_reverse.mp hx), ?_⟩
  rw [List.length_reverse]
  have h2 := this.2
  simp only [List.length_nil, Nat.zero_add] at h2
  exact h2
theorem hull_all {P : Pt → Prop} {ps : List Pt} (h : ∀ x ∈ ps, P x) : (∀ x ∈ hull ps, P x) ∧ (hull ps).length ≤ 2 * ps.length := by
  have hs : ∀ x ∈ srt ps, P x := fun x hx => h x ((mem_srt ps x).mp hx)
  have h1 := half_all hs
  have h2 := half_all (P := P) (ps := (srt ps).reverse) fun x hx => hs x (List.mem_reverse.mp hx)
  have hl := srt_len ps
  unfold hull
  split
  · exact ⟨hs, by omega⟩
  · refine ⟨fun x hx => ?_, ?_⟩
    · rcases List.mem_append.mp hx with hx | hx
      · exact h1.1 x (List.dropLast_subset _ hx)
      · exact h2.1 x (List.dropLast_subset _ hx)
    · rw [List.length_append, List.length_dropLast, List.length_dropLast]
      have := h1.2
      have := h2.2
      rw [List.length_reverse] at this
      omega
theorem hull_congr {ps qs : List Pt} (h : ∀ p, p ∈ ps ↔ p ∈ qs) : hull ps = hull qs := by unfold hull; rw [srt_congr h]
theorem hull_nil : hull [] = [] := rfl
/-! places of a stk -/
theorem at_top {b : Pt} {r : List Pt} : atI ((b :: r).reverse.map pt) (-1) = some (pt b) := by
  rw [List.reverse_cons, List.map_append]
  unfold atI ixN
  rw [if_neg (by decide), if_pos (by simp; omega)]
  have : ((-1 : Int) + ((List.map pt r.reverse ++ List.map pt [b]).length : Int)).toNat = r.length := by simp; omega
  rw [this]
  simp
theorem at_next {a b : Pt} {r : List Pt} : atI ((b :: a :: r).reverse.map pt) (-2) = some (pt a) := by
  rw [List.reverse_cons, List.reverse_cons, List.map_append, List.map_append]
  unfold atI ixN
  rw [if_neg (by decide), if_pos (by simp; omega)]
  have : ((-2 : Int) + ((List.map pt r.reverse ++ List.map pt [a] ++ List.map pt [b]).length : Int)).toNat = r.length := by simp; omega
  rw [this]
  simp
theorem pop_at {b : Pt} {r : List Pt} : ((b :: r).reverse.map pt)[((b :: r).reverse.map pt).length - 1]? = some (pt b) := by
  rw [List.reverse_cons, List.map_append]; simp
theorem pop_rest {b : Pt} {r : List Pt} : ((b :: r).reverse.map pt).dropLast = r.reverse.map pt := by
  rw [List.reverse_cons, List.map_append]; simp
theorem push_rest {p : Pt} {r : List Pt} : r.reverse.map pt ++ [pt p] = (p :: r).reverse.map pt := by
  rw [List.reverse_cons, List.map_append]; rfl
theorem cut_last (ps : List Pt) : DL.cutD (ps.map pt) none (some (-1)) = ps.dropLast.map pt := by
  unfold DL.cutD HT.sIx
  have : ((-1 : Int) + ((ps.map pt).length : Int)).toNat = ps.length - 1 := by rw [List.length_map]; omega
  show ((ps.map pt).drop 0).take ((if (-1 : Int) < 0 then (-1 + ((ps.map pt).length : Int)).toNat else _) - 0) = _
  rw [if_pos (by decide), this, List.drop_zero, Nat.sub_zero, List.dropLast_eq_take, List.map_take]
end Hull
/-! corners by sorting and walking: what they are -/
namespace Hull
open DL PySem PySem.Spec PyProof.Rows L2
def cr (d e : Pt) : Int := d.1 * e.2 - d.2 * e.1
def LP (d : Pt) : Prop := 0 < d.1 ∨ (d.1 = 0 ∧ 0 < d.2)
def LP0 (d : Pt) : Prop := 0 < d.1 ∨ (d.1 = 0 ∧ 0 ≤ d.2)
def sb (p q : Pt) : Pt := (p.1 - q.1, p.2 - q.2)
theorem lp_of {p q : Pt} (h : LtP p q) : LP (sb q p) := by unfold LP sb; unfold LtP at h; dsimp only; omega
theorem lp0_of {p q : Pt} (h : p = q ∨ LtP p q) : LP0 (sb q p) := by
  unfold LP0 sb
  rcases h with rfl | h
  · dsimp only; omega
  · unfold LtP at h; dsimp only; omega
theorem LP.to0 {d : Pt} (h : LP d) : LP0 d := by unfold LP at h; unfold LP0; omega
/-- slopes that do not fall, from the first by the second to the third -/
theorem cr_trans {d e f : Pt} (he : LP e) (hd : LP0 d) (hf : LP0 f) (h1 : 0 ≤ cr d e) (h2 : 0 ≤ cr e f) : 0 ≤ cr d f := by
  have id : e.1 * cr d f = d.1 * cr e f + f.1 * cr d e := by unfold cr; grind
  rcases he with he | ⟨he, he2⟩
  · have hd0 : 0 ≤ d.1 := by unfold LP0 at hd; omega
    have hf0 : 0 ≤ f.1 := by unfold LP0 at hf; omega
    have : 0 ≤ e.1 * cr d f := by
      rw [id]; exact Int.add_nonneg (Int.mul_nonneg hd0 h2) (Int.mul_nonneg hf0 h1)
    exact Int.nonneg_of_mul_nonneg_right this he
  · have hf0 : 0 ≤ f.1 := by unfold LP0 at hf; omega
    have hx : f.1 = 0 := by
      unfold cr at h2
      rw [he, Int.zero_mul, Int.zero_sub] at h2
      by_cases z : f.1 = 0
      · exact z
      · have := Int.mul_pos he2 (show 0 < f.1 by omega)
        omega
    have hf1 : 0 ≤ f.2 := by unfold LP0 at hf; omega
    have hd0 : 0 ≤ d.1 := by unfold LP0 at hd; omega
    unfold cr
    rw [hx, Int.mul_zero, Int.sub_zero]
    exact Int.mul_nonneg hd0 hf1
/-- along one line, farther on -/
theorem par_pos {d e f : Pt} (hd : LP d) (he : LP e) (h : cr d e = 0) (hf : 0 < cr d f) : 0 < cr e f := by
  rcases hd with hd | ⟨hd, hd2⟩
  · have id : d.1 * cr e f = e.1 * cr d f := by unfold cr at *; grind
    have he1 : 0 < e.1 := by
      rcases he with he | ⟨he, he2⟩
      · exact he
      · unfold cr at h
        rw [he, Int.mul_zero, Int.sub_zero] at h
        have := Int.mul_pos hd he2
        omega
    have : 0 < d.1 * cr e f := by rw [id]; exact Int.mul_pos he1 hf
    exact Int.pos_of_mul_pos_right this hd
  · have hex : e.1 = 0 := by
      unfold cr at h
      rw [hd, Int.zero_mul, Int.zero_sub] at h
      have h : d.2 * e.1 = 0 := by omega
      rcases Int.mul_eq_zero.mp h with z | z
      · omega
      · exact z
    have he2 : 0 < e.2 := by unfold LP at he; omega
    have id : d.2 * cr e f = e.2 * cr d f := by unfold cr; rw [hex, hd]; grind
    have : 0 < d.2 * cr e f := by rw [id]; exact Int.mul_pos he2 hf
    exact Int.pos_of_mul_pos_right this hd2
theorem span_cr (a b c : Pt) : span a b c = cr (sb b a) (sb c a) := rfl
theorem span_cr2 (a b c : Pt) : span a b c = cr (sb b a) (sb c b) := by unfold span cr sb; grind
theorem span_self1 (a b : Pt) : span a b a = 0 := by unfold span; grind
theorem span_self2 (a b : Pt) : span a b b = 0 := by unfold span; grind
theorem span_self3 (a b : Pt) : span a a b = 0 := by unfold span; grind
theorem span_rot (a b c : Pt) : span a b c = span b c a := by unfold span; grind
theorem span_swap (a b c : Pt) : span a b c = - span b a c := by unfold span; grind
theorem span_swap2 (a b c : Pt) : span a b c = - span a c b := by unfold span; grind
/-! ### a stack, the top ahead -/
def RLft (S : Pt → Prop) : List Pt → Prop
  | b :: a :: r => (∀ p, S p → 0 ≤ span a b p) ∧ RLft S (a :: r)
  | _ => True
def RTrn : List Pt → Prop
  | c :: b :: a :: r => 0 < span a b c ∧ RTrn (b :: a :: r)
  | _ => True
structure RCh (S : Pt → Prop) (s : List Pt) : Prop where
  so : s.Pairwise fun x y => LtP y x
  lf : RLft S s
  tr : RTrn s
  mem : ∀ p ∈ s, S p
theorem RTrn.tail {b : Pt} {s : List Pt} (h : RTrn (b :: s)) : RTrn s := by
  match s, h with
  | [], _ => trivial
  | [_], _ => trivial
  | _ :: _ :: _, h => exact h.2
theorem RLft.tail {S : Pt → Prop} {b : Pt} {s : List Pt} (h : RLft S (b :: s)) : RLft S s := by
  match s, h with
  | [], _ => trivial
  | _ :: _, h => exact h.2
theorem RCh.tail {S : Pt → Prop} {b : Pt} {s : List Pt} (h : RCh S (b :: s)) : RCh S s :=
  ⟨(List.pairwise_cons.mp h.so).2, h.lf.tail, h.tr.tail, fun p hp => h.mem p (List.mem_cons_of_mem _ hp)⟩
/-- all edges have on their left what the top edge has there -/
theorem lft_all {S : Pt → Prop} {p : Pt} : ∀ (a b : Pt) (r : List Pt), RCh S (b :: a :: r) → LtP b p → 0 ≤ span a b p → RLft (fun q => S q ∨ q = p) (b :: a :: r)
  | a, b, [], h, hp, h1 => ⟨fun q hq => by
      rcases hq with hq | rfl
      · exact h.lf.1 q hq
      · exact h1, trivial⟩
  | a, b, z :: r, h, hp, h1 => by
    have hs := List.pairwise_cons.mp h.so
    have hs2 := List.pairwise_cons.mp hs.2
    have ab : LtP a b := hs.1 a (by simp)
    have za : LtP z a := hs2.1 z (by simp)
    have t : 0 < span z a b := h.tr.1
    rw [span_cr2] at t h1
    have d : 0 ≤ cr (sb a z) (sb p b) := cr_trans (lp_of ab) (lp_of za).to0 (lp_of hp).to0 (Int.le_of_lt t) h1
    have e : 0 ≤ span z a p := by
      rw [span_cr2]
      have : cr (sb a z) (sb p a) = cr (sb a z) (sb b a) + cr (sb a z) (sb p b) := by unfold cr sb; grind
      omega
    refine ⟨fun q hq => ?_, lft_all z a r h.tail (ltp_tr ab hp) e⟩
    rcases hq with hq | rfl
    · exact h.lf.1 q hq
    · rw [span_cr2]; exact h1
/-- the stack when one more point, farther on, is put to it -/
theorem push_ch {S : Pt → Prop} {p : Pt} (hp : ∀ q, S q → LtP q p) : ∀ (s : List Pt), s ≠ [] → RCh S s → (∀ b r, s = b :: r → ∀ q, S q → (q = b ∨ LtP b q) → 0 ≤ span b p q) → (∀ b, s = [b] → ∀ q, S q → q = b ∨ LtP b q) → (∀ q, S q → ∃ b ∈ s, q = b ∨ LtP b q) → RCh (fun q => S q ∨ q = p) (p :: popd s p) ∧ popd s p ≠ [] ∧ (popd s p).getLast? = s.getLast?
  | [], h, _, _, _, _ => absurd rfl h
  | [b], _, h, inv, bot, _ => by
    refine ⟨⟨?_, ?_, trivial, ?_⟩, by simp [popd], rfl⟩
    · show List.Pairwise _ [p, b]
      rw [List.pairwise_cons]
      exact ⟨fun q hq => by rw [List.mem_singleton.mp hq]; exact hp b (h.mem b (by simp)), by simp⟩
    · refine ⟨fun q hq => ?_, trivial⟩
      rcases hq with hq | rfl
      · exact inv b [] rfl q hq (bot b rfl q hq)
      · rw [span_self2]; exact Int.le_refl _
    · intro q hq
      rcases List.mem_cons.mp hq with rfl | hq
      · exact .inr rfl
      · exact .inl (h.mem q hq)
  | b :: a :: r, _, h, inv, bot, low => by
    have hs := List.pairwise_cons.mp h.so
    have ab : LtP a b := hs.1 a (by simp)
    have bp := hp b (h.mem b (by simp))
    have ap := hp a (h.mem a (by simp))
    by_cases c : span a b p ≤ 0
    · have e : popd (b :: a :: r) p = popd (a :: r) p := by
        conv => lhs; unfold popd
        rw [if_pos c]
      rw [e]
      have inv' : ∀ b' r', a :: r = b' :: r' → ∀ q, S q → (q = b' ∨ LtP b' q) → 0 ≤ span b' p q := by
        intro b' r' eb q hq hb
        injection eb with eb _
        subst eb
        have hl := h.lf.1 q hq
        by_cases hqb : q = b ∨ LtP b q
        · have i1 := inv b (a :: r) rfl q hq hqb
          have id : span a p q = cr (sb b a) (sb q b) + cr (sb p b) (sb b a) + cr (sb p b) (sb q b) := by unfold span cr sb; grind
          rw [span_cr2] at hl c
          have c2 : cr (sb p b) (sb b a) = - cr (sb b a) (sb p b) := by unfold cr; grind
          have i2 : span b p q = cr (sb p b) (sb q b) := rfl
          omega
        · have qb : LtP q b := (ltp_tot fun e => hqb (.inl e)).resolve_right fun e => hqb (.inr e)
          refine cr_trans (e := sb b a) (lp_of ab) (lp_of ap).to0 (lp0_of (hb.imp Eq.symm id)) ?_ hl
          have : cr (sb p a) (sb b a) = - span a b p := by unfold cr span sb; grind
          omega
      have bot' : ∀ b', a :: r = [b'] → ∀ q, S q → q = b' ∨ LtP b' q := by
        intro b' eb q hq
        injection eb with eb er
        subst eb er
        obtain ⟨x, hx, hxq⟩ := low q hq
        simp only [List.mem_cons, List.not_mem_nil, or_false] at hx
        rcases hx with rfl | rfl
        · right
          rcases hxq with rfl | hxq
          · exact ab
          · exact ltp_tr ab hxq
        · exact hxq
      have low' : ∀ q, S q → ∃ b' ∈ a :: r, q = b' ∨ LtP b' q := by
        intro q hq
        obtain ⟨x, hx, hxq⟩ := low q hq
        rcases List.mem_cons.mp hx with rfl | hx
        · refine ⟨a, by simp, .inr ?_⟩
          rcases hxq with rfl | hxq
          · exact ab
          · exact ltp_tr ab hxq
        · exact ⟨x, hx, hxq⟩
      have ih := push_ch hp (a :: r) (by simp) h.tail inv' bot' low'
      exact ⟨ih.1, ih.2.1, by rw [ih.2.2]; rfl⟩
    · have e : popd (b :: a :: r) p = b :: a :: r := by
        unfold popd; rw [if_neg c]
      rw [e]
      refine ⟨⟨?_, ⟨?_, ?_⟩, ⟨by omega, h.tr⟩, ?_⟩, by simp, rfl⟩
      · rw [List.pairwise_cons]
        exact ⟨fun q hq => hp q (h.mem q hq), h.so⟩
      · intro q hq
        rcases hq with hq | rfl
        · by_cases hqb : q = b ∨ LtP b q
          · exact inv b (a :: r) rfl q hq hqb
          · have qb : LtP q b := (ltp_tot fun e => hqb (.inl e)).resolve_right fun e => hqb (.inr e)
            have hl := h.lf.1 q hq
            have c1 : 0 ≤ cr (sb b q) (sb b a) := by
              have : cr (sb b q) (sb b a) = span a b q := by unfold cr span sb; grind
              omega
            have c2 : 0 ≤ cr (sb b a) (sb p b) := by rw [← span_cr2]; omega
            have := cr_trans (lp_of ab) (lp_of qb).to0 (lp_of bp).to0 c1 c2
            have id : span b p q = cr (sb b q) (sb p b) := by unfold cr span sb; grind
            omega
        · rw [span_self2]; exact Int.le_refl _
      · exact lft_all a b r h bp (by omega)
      · intro q hq
        rcases List.mem_cons.mp hq with rfl | hq
        · exact .inr rfl
        · exact .inl (h.mem q hq)
end Hull
/-! the chain of a sorted list; one alone -/
namespace Hull
open DL PySem PySem.Spec PyProof.Rows L2
theorem RLft.mono {S S' : Pt → Prop} (h : ∀ p, S' p → S p) : ∀ {s : List Pt}, RLft S s → RLft S' s
  | [], _ => trivial
  | [_], _ => trivial
  | _ :: a :: r, h1 => ⟨fun p hp => h1.1 p (h p hp), RLft.mono h h1.2⟩
theorem RCh.to {S S' : Pt → Prop} {s : List Pt} (h : RCh S s) (hs : ∀ p, S' p → S p) (hm : ∀ p ∈ s, S' p) : RCh S' s := ⟨h.so, h.lf.mono hs, h.tr, hm⟩
theorem last_le : ∀ {x : Pt} {t : List Pt} {y : Pt}, (x :: t).Pairwise (fun x y => LtP y x) → (x :: t).getLast? = some y → y = x ∨ LtP y x
  | x, t, y, h, e => by
    have hy := List.mem_of_getLast? e
    rcases List.mem_cons.mp hy with rfl | hy
    · exact .inl rfl
    · exact .inr ((List.pairwise_cons.mp h).1 y hy)
theorem last_all : ∀ {t : List Pt} {y : Pt}, t.Pairwise (fun x y => LtP y x) → t.getLast? = some y → ∀ q ∈ t, q = y ∨ LtP y q
  | [], y, _, e, q, hq => absurd hq (by simp)
  | [x], y, _, e, q, hq => by
    simp only [List.getLast?_singleton, Option.some.injEq] at e
    rw [List.mem_singleton.mp hq]
    exact .inl e
  | x :: x' :: t, y, h, e, q, hq => by
    rw [List.getLast?_cons_cons] at e
    have h' := List.pairwise_cons.mp h
    rcases List.mem_cons.mp hq with rfl | hq
    · exact .inr (h'.1 y (List.mem_of_getLast? e))
    · exact last_all h'.2 e q hq
/-- the last of a sorted list is its greatest -/
theorem srtd_last : ∀ {t : List Pt} {y : Pt}, t.Pairwise LtP → t.getLast? = some y → ∀ q ∈ t, q = y ∨ LtP q y
  | [], y, _, e, q, hq => absurd hq (by simp)
  | [x], y, _, e, q, hq => by
    simp only [List.getLast?_singleton, Option.some.injEq] at e
    rw [List.mem_singleton.mp hq]
    exact .inl e
  | x :: x' :: t, y, h, e, q, hq => by
    rw [List.getLast?_cons_cons] at e
    have h' := List.pairwise_cons.mp h
    rcases List.mem_cons.mp hq with rfl | hq
    · exact .inr (h'.1 y (List.mem_of_getLast? e))
    · exact srtd_last h'.2 e q hq
theorem srtd_head {t : List Pt} {y : Pt} (h : t.Pairwise LtP) (e : t.head? = some y) : ∀ q ∈ t, q = y ∨ LtP y q := by
  match t, e with
  | x :: t, e =>
    cases e
    intro q hq
    rcases List.mem_cons.mp hq with rfl | hq
    · exact .inl rfl
    · exact .inr ((List.pairwise_cons.mp h).1 q hq)
theorem stk_ch (n : Nat) : ∀ L : List Pt, L.length = n → L ≠ [] → L.Pairwise LtP → RCh (· ∈ L) (stk L) ∧ (stk L).head? = L.getLast? ∧ (stk L).getLast? = L.head? := by
  induction n with
  | zero => intro L hl h0; exact absurd (List.length_eq_zero_iff.mp hl) h0
  | succ n ih =>
    intro L hl h0 hp
    obtain ⟨M, p, rfl⟩ : ∃ M p, L = M ++ [p] := ⟨_, _, (List.dropLast_concat_getLast h0).symm⟩
    rw [List.length_append, List.length_singleton] at hl
    rw [stk_snoc]
    by_cases hM : M = []
    · subst hM
      refine ⟨⟨by simp [push, popd, stk], trivial, trivial, by simp [push, popd, stk]⟩, rfl, rfl⟩
    · obtain ⟨i1, i2, i3⟩ := ih M (by omega) hM (List.pairwise_append.mp hp).1
      have hMp : ∀ q, q ∈ M → LtP q p := fun q hq => (List.pairwise_append.mp hp).2.2 q hq p (by simp)
      have hs0 : stk M ≠ [] := fun z => by
        rw [z] at i2
        have := List.getLast?_eq_none_iff.mp i2.symm
        exact hM this
      have sM := (List.pairwise_append.mp hp).1
      obtain ⟨c, hc⟩ : ∃ c, M.head? = some c := by
        cases M with
        | nil => exact absurd rfl hM
        | cons x t => exact ⟨x, rfl⟩
      have low := srtd_head sM hc
      have key := push_ch (S := (· ∈ M)) hMp (stk M) hs0 i1 (fun b r eb q hq hb => ?_) (fun b eb q hq => ?_) (fun q hq => ?_)
      · obtain ⟨k1, k2, k3⟩ := key
        refine ⟨?_, by simp [push], ?_⟩
        · refine k1.to (fun q hq => ?_) (fun q hq => ?_)
          · have hq : q ∈ M ++ [p] := hq
            rcases List.mem_append.mp hq with h | h
            · exact .inl h
            · exact .inr (List.mem_singleton.mp h)
          · rcases k1.mem q hq with h | h
            · exact List.mem_append_left _ h
            · exact List.mem_append_right _ (by rw [h]; simp)
        · unfold push
          obtain ⟨x, t, ext⟩ : ∃ x t, popd (stk M) p = x :: t := by
            cases h : popd (stk M) p with
            | nil => exact absurd h k2
            | cons x t => exact ⟨x, t, rfl⟩
          rw [ext, List.getLast?_cons_cons, ← ext, k3, i3, List.head?_append, hc]; rfl
      · rw [eb, List.head?_cons] at i2
        rcases srtd_last sM i2.symm q hq with rfl | h
        · rw [span_self1]; exact Int.le_refl _
        · rcases hb with rfl | hb
          · exact absurd h (ltp_irr q)
          · exact absurd (ltp_tr h hb) (ltp_irr q)
      · rw [eb, hc] at i3
        have : b = c := by simpa using i3
        rw [this]; exact low q hq
      · rw [hc] at i3
        exact ⟨c, List.mem_of_getLast? i3, low q hq⟩
/-- two chains cannot part -/
theorem part_no {S : Pt → Prop} {z b b' : Pt} {r : List Pt} (h : RCh S (z :: b :: r)) (hS : S b') (hz : LtP b' z) (lt : LtP b' b) (h0 : span b' z b ≥ 0) (hr : r ≠ []) : False := by
  match r, hr with
  | c :: r, _ =>
    have hs := List.pairwise_cons.mp h.so
    have bz : LtP b z := hs.1 b (by simp)
    have h1 := h.lf.1 b' hS
    have t := h.tr.1
    have l2 := h.lf.2.1 b' hS
    have e : cr (sb z b) (sb b b') = 0 := by
      have e1 : span b z b' = - cr (sb z b) (sb b b') := by unfold span cr sb; grind
      have e2 : span b' z b = cr (sb z b) (sb b b') := by unfold span cr sb; grind
      omega
    have f : 0 < cr (sb z b) (sb c b) := by
      have : cr (sb z b) (sb c b) = span c b z := by unfold span cr sb; grind
      omega
    have := par_pos (lp_of bz) (lp_of lt) e f
    have id : span c b b' = - cr (sb b b') (sb c b) := by unfold span cr sb; grind
    omega
theorem rch_uniq {S : Pt → Prop} : ∀ (z : Pt) (r r' : List Pt), RCh S (z :: r) → RCh S (z :: r') → (z :: r).getLast? = (z :: r').getLast? → r = r'
  | z, [], [], _, _, _ => rfl
  | z, [], b' :: r', h, h', e => by
    rw [List.getLast?_singleton, List.getLast?_cons_cons] at e
    have := (List.pairwise_cons.mp h'.so).1 z (List.mem_of_getLast? e.symm)
    exact absurd this (ltp_irr z)
  | z, b :: r, [], h, h', e => by
    rw [List.getLast?_singleton, List.getLast?_cons_cons] at e
    have := (List.pairwise_cons.mp h.so).1 z (List.mem_of_getLast? e)
    exact absurd this (ltp_irr z)
  | z, b :: r, b' :: r', h, h', e => by
    rw [List.getLast?_cons_cons, List.getLast?_cons_cons] at e
    have hb := h.mem b (by simp)
    have hb' := h'.mem b' (by simp)
    have bz := (List.pairwise_cons.mp h.so).1 b (by simp)
    have bz' := (List.pairwise_cons.mp h'.so).1 b' (by simp)
    have eb : b = b' := by
      by_cases hne : b = b'
      · exact hne
      · obtain ⟨y, hy⟩ : ∃ y, (b :: r).getLast? = some y := by
          cases hh : (b :: r).getLast? with
          | none => exact absurd (List.getLast?_eq_none_iff.mp hh) (by simp)
          | some y => exact ⟨y, rfl⟩
        have y1 := last_le h.tail.so hy
        have y2 := last_le h'.tail.so (e.symm.trans hy)
        rcases ltp_tot hne with lt | lt
        · refine (part_no h' hb bz lt (h.lf.1 b' hb') fun hr => ?_).elim
          subst hr
          have : b' = y := by rw [List.getLast?_singleton] at e; rw [hy] at e; exact (Option.some.inj e).symm
          subst this
          rcases y1 with rfl | y1
          · exact ltp_irr _ lt
          · exact ltp_irr _ (ltp_tr lt y1)
        · refine (part_no h hb' bz' lt (h'.lf.1 b hb) fun hr => ?_).elim
          subst hr
          have : b = y := by rw [List.getLast?_singleton] at hy; exact Option.some.inj hy
          subst this
          rcases y2 with rfl | y2
          · exact ltp_irr _ lt
          · exact ltp_irr _ (ltp_tr lt y2)
    subst eb
    rw [rch_uniq b r r' h.tail h'.tail e]
end Hull
/-! the corners: both chains -/
namespace Hull
open DL PySem PySem.Spec PyProof.Rows L2
def ng (p : Pt) : Pt := (-p.1, -p.2)
theorem ng_ng (p : Pt) : ng (ng p) = p := by unfold ng; simp
theorem ng_inj {p q : Pt} (h : ng p = ng q) : p = q := by rw [← ng_ng p, h, ng_ng]
theorem span_ng (a b c : Pt) : span (ng a) (ng b) (ng c) = span a b c := by unfold span ng; grind
theorem ltp_ng {p q : Pt} : LtP (ng p) (ng q) ↔ LtP q p := by unfold LtP ng; dsimp only; omega
theorem popd_ng (p : Pt) : ∀ s : List Pt, popd (s.map ng) (ng p) = (popd s p).map ng
  | [] => rfl
  | [_] => rfl
  | b :: a :: r => by
    have ih := popd_ng p (a :: r)
    show popd (ng b :: ng a :: r.map ng) (ng p) = (popd (b :: a :: r) p).map ng
    unfold popd
    rw [span_ng]
    split
    · exact ih
    · rfl
theorem fold_ng : ∀ (l s : List Pt), (l.map ng).foldl push (s.map ng) = (l.foldl push s).map ng
  | [], s => rfl
  | p :: l, s => by
    have : push (s.map ng) (ng p) = (push s p).map ng := by unfold push; rw [popd_ng]; rfl
    rw [List.map_cons, List.foldl_cons, List.foldl_cons, this, fold_ng l]
theorem stk_ng (l : List Pt) : stk (l.map ng) = (stk l).map ng := fold_ng l []
theorem map_ng_ng (l : List Pt) : (l.map ng).map ng = l := by
  rw [List.map_map]
  have : ng ∘ ng = id := funext ng_ng
  rw [this, List.map_id]
/-- the sorted list seen from the other side -/
def rv (L : List Pt) : List Pt := L.reverse.map ng
theorem mem_rv {L : List Pt} {p : Pt} : p ∈ rv L ↔ ng p ∈ L := by
  unfold rv
  rw [List.mem_map]
  constructor
  · rintro ⟨q, hq, rfl⟩
    rw [ng_ng]; exact List.mem_reverse.mp hq
  · intro h
    exact ⟨ng p, List.mem_reverse.mpr h, ng_ng p⟩
theorem pw_rv {L : List Pt} (h : L.Pairwise LtP) : (rv L).Pairwise LtP := by
  unfold rv
  rw [List.pairwise_map, List.pairwise_reverse]
  exact h.imp fun h => ltp_ng.mpr h
theorem rv_ne {L : List Pt} (h : L ≠ []) : rv L ≠ [] := by unfold rv; simpa using h
theorem rv_len (L : List Pt) : (rv L).length = L.length := by unfold rv; simp
theorem rv_last (L : List Pt) : (rv L).getLast? = L.head?.map ng := by unfold rv; simp
theorem rv_head (L : List Pt) : (rv L).head? = L.getLast?.map ng := by unfold rv; simp
/-- the corners by both chains -/
theorem hull_two (ps : List Pt) (h : (srt ps).length ≠ 1) : hull ps = (stk (srt ps)).tail.reverse ++ ((stk (rv (srt ps))).tail.map ng).reverse := by
  unfold hull half
  rw [if_neg h]
  have e : stk (srt ps).reverse = (stk (rv (srt ps))).map ng := by
    unfold rv; rw [stk_ng, map_ng_ng]
  rw [e, List.dropLast_reverse, List.dropLast_reverse, List.map_tail]
structure Two (L : List Pt) (a z : Pt) (r r' : List Pt) : Prop where
  so : L.Pairwise LtP
  az : LtP a z
  first : ∀ q ∈ L, q = a ∨ LtP a q
  last : ∀ q ∈ L, q = z ∨ LtP q z
  ma : a ∈ L
  mz : z ∈ L
  e : stk L = z :: r
  e' : stk (rv L) = ng a :: r'
  low : RCh (· ∈ L) (z :: r)
  upp : RCh (· ∈ rv L) (ng a :: r')
  bot : (z :: r).getLast? = some a
  bot' : (ng a :: r').getLast? = some (ng z)
theorem two_of {L : List Pt} (hp : L.Pairwise LtP) (h2 : 2 ≤ L.length) : ∃ a z r r', Two L a z r r' := by
  match L, h2 with
  | a :: b :: t, _ =>
    obtain ⟨z, hz⟩ : ∃ z, (a :: b :: t).getLast? = some z := by
      cases hh : (a :: b :: t).getLast? with
      | none => exact absurd (List.getLast?_eq_none_iff.mp hh) (by simp)
      | some y => exact ⟨y, rfl⟩
    obtain ⟨k1, k2, k3⟩ := stk_ch _ (a :: b :: t) rfl (by simp) hp
    obtain ⟨m1, m2, m3⟩ := stk_ch _ (rv (a :: b :: t)) rfl (rv_ne (by simp)) (pw_rv hp)
    rw [hz] at k2
    rw [rv_last] at m2
    rw [rv_head, hz] at m3
    generalize hs : stk (a :: b :: t) = s at *
    generalize hs' : stk (rv (a :: b :: t)) = s' at *
    have mz := List.mem_of_getLast? hz
    have az : LtP a z := by
      rw [List.getLast?_cons_cons] at hz
      exact (List.pairwise_cons.mp hp).1 z (List.mem_of_getLast? hz)
    match s, s', k2, m2 with
    | x :: r, y :: r', k2, m2 =>
      have ex : x = z := by simpa using k2
      have ey : y = ng a := by simpa using m2
      subst ex ey
      exact ⟨a, x, r, r', hp, az, srtd_head hp rfl, srtd_last hp hz, by simp, mz, hs, hs', k1, m1, k3, m3⟩
theorem Two.ne {L : List Pt} {a z : Pt} {r r' : List Pt} (h : Two L a z r r') : L.length ≠ 1 := fun e => by
  have h1 := h.ma
  have h2 := h.mz
  match L, e with
  | [x], _ =>
    rw [List.mem_singleton] at h1 h2
    have := h.az
    rw [h1, h2] at this
    exact ltp_irr x this
theorem mem_hull {ps : List Pt} {a z : Pt} {r r' : List Pt} (h : Two (srt ps) a z r r') (x : Pt) : x ∈ hull ps ↔ x ∈ z :: r ∨ ng x ∈ ng a :: r' := by
  rw [hull_two ps h.ne, h.e, h.e', List.mem_append, List.mem_reverse, List.mem_reverse, List.mem_map, List.tail_cons, List.tail_cons]
  have za : ng z ∈ r' := by
    have := List.mem_of_getLast? h.bot'
    rcases List.mem_cons.mp this with e | e
    · have e := ng_inj e
      have := h.az
      rw [e] at this
      exact absurd this (ltp_irr a)
    · exact e
  have ar : a ∈ r := by
    have := List.mem_of_getLast? h.bot
    rcases List.mem_cons.mp this with e | e
    · have := h.az
      rw [e] at this
      exact absurd this (ltp_irr z)
    · exact e
  constructor
  · rintro (hx | ⟨y, hy, rfl⟩)
    · exact .inl (List.mem_cons_of_mem _ hx)
    · exact .inr (by rw [ng_ng]; exact List.mem_cons_of_mem _ hy)
  · rintro (hx | hx)
    · rcases List.mem_cons.mp hx with rfl | hx
      · exact .inr ⟨ng x, za, ng_ng x⟩
      · exact .inl hx
    · rcases List.mem_cons.mp hx with e | hx
      · rw [ng_inj e]; exact .inl ar
      · exact .inr ⟨ng x, hx, ng_ng x⟩
theorem hull_mem {ps : List Pt} {x : Pt} (h : x ∈ hull ps) : x ∈ ps := (hull_all (P := (· ∈ ps)) fun _ h => h).1 x h
theorem hull_one {p : Pt} {ps : List Pt} (h : srt ps = [p]) : hull ps = [p] := by unfold hull; rw [h]; rfl
/-- points between the corners and all have the same corners -/
theorem hull_between {ps qs : List Pt} (h1 : ∀ p ∈ qs, p ∈ ps) (h2 : ∀ p ∈ hull ps, p ∈ qs) : hull qs = hull ps := by
  have sub : ∀ p ∈ srt qs, p ∈ srt ps := fun p hp => (mem_srt ps p).mpr (h1 p ((mem_srt qs p).mp hp))
  rcases Nat.lt_or_ge (srt ps).length 2 with hl | hl
  · match hs : srt ps, hl with
    | [], _ =>
      have : srt qs = [] := List.eq_nil_iff_forall_not_mem.mpr fun p hp => by have := sub p hp; rw [hs] at this; exact absurd this (by simp)
      unfold hull; rw [hs, this]
    | [p], _ =>
      have hq : p ∈ qs := h2 p (by rw [hull_one hs]; simp)
      have : srt qs = [p] := by
        refine (srt_uniq (L := [p]) (by simp) fun x => ?_).symm
        constructor
        · intro hx; rw [List.mem_singleton.mp hx]; exact hq
        · intro hx
          have := sub x ((mem_srt qs x).mpr hx)
          rw [hs] at this; exact this
      rw [hull_one hs, hull_one this]
  · obtain ⟨a, z, r, r', T⟩ := two_of (pw_srt ps) hl
    have ha : a ∈ srt qs := (mem_srt qs a).mpr (h2 a ((mem_hull T a).mpr (.inl (List.mem_of_getLast? T.bot))))
    have hz : z ∈ srt qs := (mem_srt qs z).mpr (h2 z ((mem_hull T z).mpr (.inl (by simp))))
    have hl' : 2 ≤ (srt qs).length := by
      match hh : srt qs, ha, hz with
      | [x], ha, hz =>
        rw [List.mem_singleton] at ha hz
        have := T.az
        rw [ha, hz] at this
        exact absurd this (ltp_irr x)
      | _ :: _ :: _, _, _ => simp
    obtain ⟨a2, z2, r2, r2', T2⟩ := two_of (pw_srt qs) hl'
    have ea : a2 = a := by
      rcases T2.first a ha with e | e
      · exact e.symm
      · rcases T.first a2 (sub a2 T2.ma) with e' | e'
        · exact e'
        · exact absurd (ltp_tr e e') (ltp_irr _)
    have ez : z2 = z := by
      rcases T2.last z hz with e | e
      · exact e.symm
      · rcases T.last z2 (sub z2 T2.mz) with e' | e'
        · exact e'
        · exact absurd (ltp_tr e e') (ltp_irr _)
    subst ea ez
    have er : r2 = r := rch_uniq (S := (· ∈ srt qs)) z2 r2 r T2.low (T.low.to sub fun p hp => (mem_srt qs p).mpr (h2 p ((mem_hull T p).mpr (.inl hp)))) (T2.bot.trans T.bot.symm)
    have er' : r2' = r' := rch_uniq (S := (· ∈ rv (srt qs))) (ng a2) r2' r' T2.upp (T.upp.to (fun p hp => mem_rv.mpr (sub _ (mem_rv.mp hp))) fun p hp => mem_rv.mpr ((mem_srt qs _).mpr (h2 _ ((mem_hull T _).mpr (.inr (by rw [ng_ng]; exact hp)))))) (T2.bot'.trans T.bot'.symm)
    rw [hull_two ps T.ne, hull_two qs T2.ne, T.e, T.e', T2.e, T2.e', er, er']
theorem hull_hull (ps : List Pt) : hull (hull ps) = hull ps := hull_between (fun _ h => hull_mem h) fun _ h => h
/-- an inner corner of a chain -/
theorem inner {S : Pt → Prop} : ∀ (t : Pt) (r : List Pt) (u : Pt), RCh S (t :: r) → u ∈ r → (t :: r).getLast? ≠ some u → ∃ t' s r', RCh S (t' :: u :: s :: r')
  | t, [], u, _, h, _ => absurd h (by simp)
  | t, v :: r, u, h, hu, hl => by
    rcases List.mem_cons.mp hu with rfl | hu
    · match r, hl with
      | [], hl => exact absurd (by simp) hl
      | s :: r, _ => exact ⟨t, s, r, h⟩
    · rw [List.getLast?_cons_cons] at hl
      exact inner v r u h.tail hu hl
theorem no_both {L : List Pt} {a z : Pt} {r r' : List Pt} (T : Two L a z r r') (u : Pt) (h1 : u ∈ r) (h2 : ng u ∈ r') : False := by
  have ua : u ≠ a := fun e => by
    subst e
    exact ltp_irr _ ((List.pairwise_cons.mp T.upp.so).1 _ h2)
  have uz : u ≠ z := fun e => by
    subst e
    exact ltp_irr _ ((List.pairwise_cons.mp T.low.so).1 _ h1)
  obtain ⟨t, s, l, R⟩ := inner z r u T.low h1 (by rw [T.bot]; exact fun e => ua (Option.some.inj e).symm)
  obtain ⟨t', s', l', R'⟩ := inner (ng a) r' (ng u) T.upp h2 (by rw [T.bot']; exact fun e => uz (ng_inj (Option.some.inj e)).symm)
  have su : LtP s u := (List.pairwise_cons.mp R.tail.so).1 s (by simp)
  have us' : LtP u (ng s') := by
    have := (List.pairwise_cons.mp R'.tail.so).1 s' (by simp)
    rw [← ng_ng s'] at this
    exact ltp_ng.mp this
  have mS' : ng s' ∈ L := mem_rv.mp (R'.mem s' (by simp))
  have ms := R.mem s (by simp)
  have mt := R.mem t (by simp)
  have f1 := R.tr.1
  have f2 := R.lf.2.1 (ng s') mS'
  have g : ∀ p ∈ L, 0 ≤ span (ng s') u p := fun p hp => by
    have := R'.lf.2.1 (ng p) (mem_rv.mpr (by rw [ng_ng]; exact hp))
    rw [← span_ng, ng_ng]; exact this
  have f3 := g s ms
  have f4 := g t mt
  have e0 : cr (sb u s) (sb (ng s') u) = 0 := by
    have e1 : span s u (ng s') = cr (sb u s) (sb (ng s') u) := span_cr2 _ _ _
    have e2 : span (ng s') u s = - cr (sb u s) (sb (ng s') u) := by unfold span cr sb; grind
    omega
  have e1 : 0 < cr (sb u s) (sb t u) := by rw [← span_cr2]; exact f1
  have := par_pos (lp_of su) (lp_of us') e0 e1
  have e2 : span (ng s') u t = - cr (sb (ng s') u) (sb t u) := by unfold span cr sb; grind
  omega
theorem so_nodup {s : List Pt} (h : s.Pairwise fun x y => LtP y x) : s.Nodup := h.imp fun hl e => by subst e; exact ltp_irr _ hl
theorem nodup_rev {l : List Pt} (h : l.Nodup) : l.reverse.Nodup := List.pairwise_reverse.mpr (List.Pairwise.imp (fun e => Ne.symm e) h)
theorem hull_nodup (ps : List Pt) : (hull ps).Nodup := by
  rcases Nat.lt_or_ge (srt ps).length 2 with hl | hl
  · match hs : srt ps, hl with
    | [], _ => unfold hull; rw [hs]; simp [half, stk]
    | [p], _ => rw [hull_one hs]; simp
  · obtain ⟨a, z, r, r', T⟩ := two_of (pw_srt ps) hl
    rw [hull_two ps T.ne, T.e, T.e', List.tail_cons, List.tail_cons]
    refine List.nodup_append.mpr ⟨nodup_rev (so_nodup T.low.tail.so), nodup_rev ?_, fun x hx y hy e => ?_⟩
    · refine List.Pairwise.map ng ?_ (so_nodup T.upp.tail.so)
      exact fun x y h e => h (ng_inj e)
    · subst e
      rw [List.mem_reverse] at hx hy
      obtain ⟨y, hy, e⟩ := List.mem_map.mp hy
      refine no_both T x hx ?_
      rw [← e, ng_ng]; exact hy
theorem nodup_len : ∀ {l m : List Pt}, l.Nodup → (∀ x ∈ l, x ∈ m) → l.length ≤ m.length
  | [], m, _, _ => Nat.zero_le _
  | x :: l, m, h, hs => by
    have hx := hs x (by simp)
    have h' := List.nodup_cons.mp h
    have := nodup_len (l := l) (m := m.erase x) h'.2 fun y hy => (List.mem_erase_of_ne (fun e => h'.1 (by rw [← e]; exact hy))).mpr (hs y (by simp [hy]))
    rw [List.length_erase_of_mem hx] at this
    have := List.length_pos_of_mem hx
    rw [List.length_cons]; omega
theorem hull_len (ps : List Pt) : (hull ps).length ≤ ps.length := nodup_len (hull_nodup ps) fun _ h => hull_mem h
theorem hull_ne {ps : List Pt} (h : ps ≠ []) : hull ps ≠ [] := by
  match ps, h with
  | p :: t, _ =>
    rcases Nat.lt_or_ge (srt (p :: t)).length 2 with hl | hl
    · match hs : srt (p :: t), hl with
      | [], _ => have := (mem_srt (p :: t) p).mpr (by simp); rw [hs] at this; exact absurd this (by simp)
      | [q], _ => rw [hull_one hs]; simp
    · obtain ⟨a, z, r, r', T⟩ := two_of (pw_srt (p :: t)) hl
      have := (mem_hull T z).mpr (.inl (by simp))
      exact List.ne_nil_of_mem this
end Hull
namespace DL
open PySem PySem.Spec PyProof.Rows L2

/-! ### the law's own end -/
def spLaw (K : PySem.W.Frag) : Sp := fun vs H Q _ => ∃ (a : Addr) (ns : List Int), vs = [.ref a] ∧ SqL K H a (ns.map V.int) ∧ Scr ns ∧ ∀ H', Q (.bl true) H'
theorem law_fn {P : Program} {w : World} {K : PySem.W.Frag} {mg : MG} {base : Heap} {k : Nat} {f : Addr} {fd : FuncData} {S : Fsp} (F : FnOk P w K mg base (L2.CX P w) k f fd ["script"] (spOf K mg [false] S)) (hS : ∀ (ns : List Int) (κ : Rv → Prop) (ε : Str → Prop), Scr ns → κ (.v (.bl true)) → S [.lst (ns.map Dat.int)] κ ε) :
    FnOk P w K mg base (L2.CX P w) k f fd ["script"] (spLaw K) := by
  refine F.imp fun vs H Q E h => ?_
  obtain ⟨a, ns, rfl, hs, hn, q⟩ := h
  refine ⟨fun _ => none, [.lst (ns.map Dat.int)], (fun _ _ e => nomatch e), ⟨_, [], _, [], rfl, rfl, .inr ⟨a, _, _, rfl, rfl, hs, RdL.ints ns⟩, rfl, rfl⟩, fun r => r = .v (.bl true), fun _ => False, hS ns _ _ hn rfl, fun v H' G' r x hr ok e => ?_, fun _ _ _ _ _ _ z => False.elim z⟩
  subst e
  rw [rvB hr]
  exact q H'
theorem bits_bt {z : Int} (h : Builtin.Int.intBits z ≤ 1048576) : Bt 1048577 z := by
  rw [Bt.def]
  unfold Builtin.Int.intBits at h
  split at h
  · rename_i e
    simp only [beq_iff_eq] at e
    rw [e]
    exact Nat.pow_pos (by decide)
  · rename_i e
    have hz : z.natAbs ≠ 0 := fun q => e (by simp only [beq_iff_eq]; omega)
    exact (Nat.log2_lt hz).mp (by omega)
theorem walk_dl {l : PySem.W.OpenLaw} {q : Program} {loose : List Str} {XP : (Str → Option Value) → Heap → Prop} {YP : World → Heap → Prop} {d : DefRec} {K : Params → PySem.W.Frag} {k : Nat} (hr : Room k callerA) (hn : l.most = some 63) (hdf : d.params.defaults = [])
    (hY : ∀ (w : World) (h : Heap), YP w h → (K w.params).In h)
    (F : ∀ (w : World) (mg : Str → Option Value) (fa : Addr) (h : Heap), (K w.params).In h → h.Ns mainGlobals mg → mg d.name = some (.ref fa) →
      ∃ fd : FuncData, (∀ (s : Shared) (u : Value), BindsTo s fd ⟨[u], []⟩ [("script", u)]) ∧ ∀ base : Heap, (K w.params).In base → base.Ns mainGlobals mg → FnOk l.prog w (K w.params) mg base (L2.CX l.prog w) k fa fd ["script"] (spLaw (K w.params))) :
    PySem.W.WalkO q loose XP YP l.row.toRowW d [] (fun f vs => PySem.call f vs) :=
  L2.walk_ofB (n := 63) (k := k) (x := "script") (CX := fun w => L2.CX l.prog w) (sp := fun w => spLaw (K w.params)) hn (by decide) hdf hr hY F (fun w H a ns hl hb _ hS => ⟨a, ns, rfl, hS, ⟨hl, fun z hz => bits_bt (hb z hz)⟩, fun _ => rfl⟩) fun _ _ _ _ _ z => by
    obtain ⟨_, _, _, _, _, _, _, _, _, _, _, _, e⟩ := z
    exact e
end DL
namespace Py
open PySem PySem.Spec PyProof.Rows L2 DL
def topS (i : Nat) : Stmt := PySem.Challenge.pw_stakefield_k10_refused_fields.main.body.getD i (.Pass ⟨0, 0, 0, 0⟩)
structure Bs (mg : MG) : Prop where
  abs_ : mg "abs" = none
  bool_ : mg "bool" = none
  int_ : mg "int" = none
  isinstance_ : mg "isinstance" = none
  len_ : mg "len" = none
  list_ : mg "list" = none
  max_ : mg "max" = none
  min_ : mg "min" = none
  range_ : mg "range" = none
  reversed_ : mg "reversed" = none
  set_ : mg "set" = none
  sorted_ : mg "sorted" = none
  tuple_ : mg "tuple" = none
def exM : List (Str × Str × Bool) := [("NoField", "StakeError", true), ("NoMove", "StakeError", true)]
def exI : List (Str × Str × Bool) := ([("NoField", "Flat", false), ("NoMove", "Flat", false), ("NoField", "NoField", true), ("NoMove", "NoField", false), ("NoField", "NoHeart", false), ("NoMove", "NoHeart", false), ("NoField", "NoMove", false), ("NoMove", "NoMove", true), ("NoField", "NoName", false), ("NoMove", "NoName", false), ("NoField", "NoNumber", false), ("NoMove", "NoNumber", false), ("NoField", "NoRow", false), ("NoMove", "NoRow", false), ("NoField", "NoText", false)] : List (Str × Str × Bool)) ++ ([("NoMove", "NoText", false), ("NoField", "NoWedge", false), ("NoMove", "NoWedge", false), ("NoField", "NotThere", false), ("NoMove", "NotThere", false), ("NoField", "TooGreat", false), ("NoMove", "TooGreat", false), ("NoField", "TooMany", false), ("NoMove", "TooMany", false), ("NoField", "ValueError", true), ("NoMove", "ValueError", true)] : List (Str × Str × Bool))
structure Es (K : PySem.W.Frag) (mg : MG) : Prop where
  r_NoField : Xr K mg "NoField"
  r_NoMove : Xr K mg "NoMove"
  c_StakeError : ∃ C, mg "StakeError" = some (.ref C)
  xs : Xs K mg exM exI
/-! ### is_whole -/
abbrev s_is_whole : Stmt := topS 15
theorem sc_is_whole : FnScope ["thing"] ["thing"] (defScope s_is_whole) := ⟨rfl, rfl, rfl, by decide +kernel, rfl, by decide +kernel, by decide +kernel⟩
abbrev ms_is_whole : List Bool := [false]
def d_is_whole : DS :=
  sRet (dAnd (dIsi .int (dVar 0)) (dNot (dIsi .bool (dVar 0))))
theorem ok_is_whole {P : Program} {w : World} {K : PySem.W.Frag} {mg : MG} {base : Heap} {f : Addr} {fd : FuncData}  {S : Fsp} (F : Fun K "is_whole" "is_whole" s_is_whole f fd) (hm : mg "is_whole" = some (.ref f)) (bb : Binds K fd ["thing"] []) (B : Bs mg) (EX : Es K mg) 
    (sem : ∀ ds κ ε, S ds κ ε → d_is_whole  (endsOf κ ε) (entry ms_is_whole 1 ds)) : Cal P w K mg base 1 "is_whole" ["thing"] ms_is_whole S :=
  ⟨f, fd, fn_dl (k := 0) F sc_is_whole rfl (fun cdv A outer s H E C => mss_one (ms_ret (me_and (me_isi .int (by decide +kernel) B.isinstance_ B.int_ (me_var 0)) (me_one (me_not (me_isi .bool (by decide +kernel) B.isinstance_ B.bool_ (me_var 0))))))) sem, hm, F.kp, bb⟩
/-! ### is_move -/
abbrev s_is_move : Stmt := topS 17
theorem sc_is_move : FnScope ["thing", "part"] ["thing"] (defScope s_is_move) := ⟨rfl, rfl, rfl, by decide +kernel, rfl, by decide +kernel, by decide +kernel⟩
abbrev ms_is_move : List Bool := [false]
def b_is_move_1 (S_is_whole : Fsp) : DS :=
  sIf (tNotD (tVal (dCall ms_is_whole S_is_whole (aCons (dVar 1) (aNil)))))
  (sRet (dC (.bl false)))
  (sNil)
def t_is_move_2 (S_is_whole : Fsp) : DS :=
  sRet (dEq (dB kAbs (aCons (dSub (dMul (dIx (dVar 0) (dC (.int 0))) (dIx (dVar 0) (dC (.int 3)))) (dMul (dIx (dVar 0) (dC (.int 1))) (dIx (dVar 0) (dC (.int 2))))) (aNil))) (dC (.int 1)))
def t_is_move_1 (S_is_whole : Fsp) : DS :=
  sSeq (sFor (iLst false (dVar 0)) (gN 1) (b_is_move_1 S_is_whole))
  (t_is_move_2 S_is_whole)
def d_is_move (S_is_whole : Fsp) : DS :=
  sSeq (sIf (tOrD (tNotD (tVal (dIsi .tuple (dVar 0)))) (tVal (dNe (dB kLen (aCons (dVar 0) (aNil))) (dC (.int 6)))))
  (sRet (dC (.bl false)))
  (sNil))
  (t_is_move_1 S_is_whole)
theorem ok_is_move {P : Program} {w : World} {K : PySem.W.Frag} {mg : MG} {base : Heap} {f : Addr} {fd : FuncData} {S_is_whole : Fsp} {S : Fsp} (F : Fun K "is_move" "is_move" s_is_move f fd) (hm : mg "is_move" = some (.ref f)) (bb : Binds K fd ["thing"] []) (B : Bs mg) (EX : Es K mg) (F_is_whole : Cal P w K mg base 1 "is_whole" ["thing"] ms_is_whole S_is_whole)
    (sem : ∀ ds κ ε, S ds κ ε → d_is_move S_is_whole (endsOf κ ε) (entry ms_is_move 2 ds)) : Cal P w K mg base 2 "is_move" ["thing"] ms_is_move S :=
  ⟨f, fd, fn_dl (k := 1) F sc_is_move rfl (fun cdv A outer s H E C => mss_cons (ms_if ((mw_or (mt_not (mt_val (me_isi .tuple (by decide +kernel) B.isinstance_ B.tuple_ (me_var 0)))) (mw_or1 (mt_ne C.hr.units (me_len B.len_ (ma_cons (me_var 0) (ma_nil))) (me_int)))).mt)
  (mss_one (ms_ret (me_bl)))
  (mss_nil))
  (mss_cons (ms_for C (mi_list (me_var 0)) (mg_name 1 C.nd)
  (mss_one (ms_if (mt_not (mt_val (me_callC C F_is_whole (ma_cons (me_var 1) (ma_nil)))))
  (mss_one (ms_ret (me_bl)))
  (mss_nil))))
  (mss_one (ms_ret (me_eq C.hr.units (me_abs B.abs_ (ma_cons (me_sub (me_mul (me_ix (me_var 0) (me_int)) (me_ix (me_var 0) (me_int))) (me_mul (me_ix (me_var 0) (me_int)) (me_ix (me_var 0) (me_int)))) (ma_nil))) (me_int)))))) sem, hm, F.kp, bb⟩
/-! ### need_move -/
abbrev s_need_move : Stmt := topS 18
theorem sc_need_move : FnScope ["thing"] ["thing"] (defScope s_need_move) := ⟨rfl, rfl, rfl, by decide +kernel, rfl, by decide +kernel, by decide +kernel⟩
abbrev ms_need_move : List Bool := [false]
def d_need_move (S_is_move : Fsp) : DS :=
  sIf (tNotD (tVal (dCall ms_is_move S_is_move (aCons (dVar 0) (aNil)))))
  (sRaise "NoMove")
  (sNil)
theorem ok_need_move {P : Program} {w : World} {K : PySem.W.Frag} {mg : MG} {base : Heap} {f : Addr} {fd : FuncData} {S_is_move : Fsp} {S : Fsp} (F : Fun K "need_move" "need_move" s_need_move f fd) (hm : mg "need_move" = some (.ref f)) (bb : Binds K fd ["thing"] []) (B : Bs mg) (EX : Es K mg) (F_is_move : Cal P w K mg base 2 "is_move" ["thing"] ms_is_move S_is_move)
    (sem : ∀ ds κ ε, S ds κ ε → d_need_move S_is_move (endsOf κ ε) (entry ms_need_move 1 ds)) : Cal P w K mg base 3 "need_move" ["thing"] ms_need_move S :=
  ⟨f, fd, fn_dl (k := 2) F sc_need_move rfl (fun cdv A outer s H E C => mss_one (ms_if (mt_not (mt_val (me_callC C F_is_move (ma_cons (me_var 0) (ma_nil)))))
  (mss_one (ms_raise C.hc C.tk EX.r_NoMove))
  (mss_nil))) sem, hm, F.kp, bb⟩
/-! ### moved -/
abbrev s_moved : Stmt := topS 19
theorem sc_moved : FnScope ["P", "move", "a", "b", "c", "d", "e", "f"] ["P", "move"] (defScope s_moved) := ⟨rfl, rfl, rfl, by decide +kernel, rfl, by decide +kernel, by decide +kernel⟩
abbrev ms_moved : List Bool := [false, false]
def t_moved_2 (S_need_move : Fsp) : DS :=
  sRet (dTup (aCons (dAdd (dAdd (dMul (dVar 2) (dIx (dVar 0) (dC (.int 0)))) (dMul (dVar 3) (dIx (dVar 0) (dC (.int 1))))) (dVar 6)) (aCons (dAdd (dAdd (dMul (dVar 4) (dIx (dVar 0) (dC (.int 0)))) (dMul (dVar 5) (dIx (dVar 0) (dC (.int 1))))) (dVar 7)) (aNil))))
def t_moved_1 (S_need_move : Fsp) : DS :=
  sSeq (sAsg (dVar 1) (gT 6 (gsCons (gN 2) (gsCons (gN 3) (gsCons (gN 4) (gsCons (gN 5) (gsCons (gN 6) (gsCons (gN 7) (gsNil)))))))))
  (t_moved_2 S_need_move)
def d_moved (S_need_move : Fsp) : DS :=
  sSeq (sDrop (dCall ms_need_move S_need_move (aCons (dVar 1) (aNil))))
  (t_moved_1 S_need_move)
theorem ok_moved {P : Program} {w : World} {K : PySem.W.Frag} {mg : MG} {base : Heap} {f : Addr} {fd : FuncData} {S_need_move : Fsp} {S : Fsp} (F : Fun K "moved" "moved" s_moved f fd) (hm : mg "moved" = some (.ref f)) (bb : Binds K fd ["P", "move"] []) (B : Bs mg) (EX : Es K mg) (F_need_move : Cal P w K mg base 3 "need_move" ["thing"] ms_need_move S_need_move)
    (sem : ∀ ds κ ε, S ds κ ε → d_moved S_need_move (endsOf κ ε) (entry ms_moved 8 ds)) : Cal P w K mg base 4 "moved" ["P", "move"] ms_moved S :=
  ⟨f, fd, fn_dl (k := 3) F sc_moved rfl (fun cdv A outer s H E C => mss_cons (ms_drop (me_callC C F_need_move (ma_cons (me_var 1) (ma_nil))))
  (mss_cons (ms_asg (me_var 1) (mg_tup C.hc (mgs_cons (mg_name 2 C.nd) (mgs_cons (mg_name 3 C.nd) (mgs_cons (mg_name 4 C.nd) (mgs_cons (mg_name 5 C.nd) (mgs_cons (mg_name 6 C.nd) (mgs_cons (mg_name 7 C.nd) (mgs_nil)))))))))
  (mss_one (ms_ret (me_tup (ma_cons (me_add (me_add (me_mul (me_var 2) (me_ix (me_var 0) (me_int))) (me_mul (me_var 3) (me_ix (me_var 0) (me_int)))) (me_var 6)) (ma_cons (me_add (me_add (me_mul (me_var 4) (me_ix (me_var 0) (me_int))) (me_mul (me_var 5) (me_ix (me_var 0) (me_int)))) (me_var 7)) (ma_nil)))))))) sem, hm, F.kp, bb⟩
/-! ### turn -/
abbrev s_turn : Stmt := topS 21
theorem sc_turn : FnScope ["one", "two", "three", "ahead", "aside"] ["one", "two", "three"] (defScope s_turn) := ⟨rfl, rfl, rfl, by decide +kernel, rfl, by decide +kernel, by decide +kernel⟩
abbrev ms_turn : List Bool := [false, false, false]
def t_turn_4 : DS :=
  sRet (dC (.int 0))
def t_turn_3 : DS :=
  sSeq (sIf (tVal (dLt (dVar 3) (dVar 4)))
  (sRet (dNeg (dC (.int 1))))
  (sNil))
  t_turn_4
def t_turn_2 : DS :=
  sSeq (sIf (tVal (dGt (dVar 3) (dVar 4)))
  (sRet (dC (.int 1)))
  (sNil))
  t_turn_3
def t_turn_1 : DS :=
  sSeq (sAsg (dMul (dSub (dIx (dVar 1) (dC (.int 1))) (dIx (dVar 0) (dC (.int 1)))) (dSub (dIx (dVar 2) (dC (.int 0))) (dIx (dVar 0) (dC (.int 0))))) (gN 4))
  t_turn_2
def d_turn : DS :=
  sSeq (sAsg (dMul (dSub (dIx (dVar 1) (dC (.int 0))) (dIx (dVar 0) (dC (.int 0)))) (dSub (dIx (dVar 2) (dC (.int 1))) (dIx (dVar 0) (dC (.int 1))))) (gN 3))
  t_turn_1
theorem ok_turn {P : Program} {w : World} {K : PySem.W.Frag} {mg : MG} {base : Heap} {f : Addr} {fd : FuncData}  {S : Fsp} (F : Fun K "turn" "turn" s_turn f fd) (hm : mg "turn" = some (.ref f)) (bb : Binds K fd ["one", "two", "three"] []) (B : Bs mg) (EX : Es K mg) 
    (sem : ∀ ds κ ε, S ds κ ε → d_turn  (endsOf κ ε) (entry ms_turn 5 ds)) : Cal P w K mg base 1 "turn" ["one", "two", "three"] ms_turn S :=
  ⟨f, fd, fn_dl (k := 0) F sc_turn rfl (fun cdv A outer s H E C => mss_cons (ms_set 3 C.nd (me_mul (me_sub (me_ix (me_var 1) (me_int)) (me_ix (me_var 0) (me_int))) (me_sub (me_ix (me_var 2) (me_int)) (me_ix (me_var 0) (me_int)))))
  (mss_cons (ms_set 4 C.nd (me_mul (me_sub (me_ix (me_var 1) (me_int)) (me_ix (me_var 0) (me_int))) (me_sub (me_ix (me_var 2) (me_int)) (me_ix (me_var 0) (me_int)))))
  (mss_cons (ms_if (mt_gt (me_var 3) (me_var 4))
  (mss_one (ms_ret (me_int)))
  (mss_nil))
  (mss_cons (ms_if (mt_lt (me_var 3) (me_var 4))
  (mss_one (ms_ret (me_neg (me_int))))
  (mss_nil))
  (mss_one (ms_ret (me_int))))))) sem, hm, F.kp, bb⟩
/-! ### half_round -/
abbrev s_half_round : Stmt := topS 22
theorem sc_half_round : FnScope ["points", "way", "point"] ["points"] (defScope s_half_round) := ⟨rfl, rfl, rfl, by decide +kernel, rfl, by decide +kernel, by decide +kernel⟩
abbrev ms_half_round : List Bool := [false]
def b_half_round_1 (S_turn : Fsp) : DT :=
  tAndD (tVal (dGt (dB kLen (aCons (dVar 1) (aNil))) (dC (.int 1)))) (tVal (dLt (dCall ms_turn S_turn (aCons (dIx (dVar 1) (dNeg (dC (.int 2)))) (aCons (dIx (dVar 1) (dNeg (dC (.int 1)))) (aCons (dVar 2) (aNil))))) (dC (.int 1))))
def b_half_round_2 : DS :=
  sPop 1 gDrop
def b_half_round_3 (S_turn : Fsp) : DS :=
  sSeq (sWhile (b_half_round_1 S_turn) b_half_round_2)
  (sApp 1 (dVar 2))
def t_half_round_2 (S_turn : Fsp) : DS :=
  sRetV 1
def t_half_round_1 (S_turn : Fsp) : DS :=
  sSeq (sFor (iLst false (dVar 0)) (gN 2) (b_half_round_3 S_turn))
  (t_half_round_2 S_turn)
def d_half_round (S_turn : Fsp) : DS :=
  sSeq (sAsg (dLst (aNil)) (gN 1))
  (t_half_round_1 S_turn)
theorem ok_half_round {P : Program} {w : World} {K : PySem.W.Frag} {mg : MG} {base : Heap} {f : Addr} {fd : FuncData} {S_turn : Fsp} {S : Fsp} (F : Fun K "half_round" "half_round" s_half_round f fd) (hm : mg "half_round" = some (.ref f)) (bb : Binds K fd ["points"] []) (B : Bs mg) (EX : Es K mg) (F_turn : Cal P w K mg base 1 "turn" ["one", "two", "three"] ms_turn S_turn)
    (sem : ∀ ds κ ε, S ds κ ε → d_half_round S_turn (endsOf κ ε) (entry ms_half_round 3 ds)) : Cal P w K mg base 2 "half_round" ["points"] ms_half_round S :=
  ⟨f, fd, fn_dl (k := 1) F sc_half_round rfl (fun cdv A outer s H E C => mss_cons (ms_set 1 C.nd (me_lst (ma_nil)))
  (mss_cons (ms_for C (mi_list (me_var 0)) (mg_name 2 C.nd)
  (mss_cons (ms_while C ((mw_and (mt_gt (me_len B.len_ (ma_cons (me_var 1) (ma_nil))) (me_int)) (mw_and1 (mt_lt (me_callC C F_turn (ma_cons (me_ix (me_var 1) (me_neg (me_int))) (ma_cons (me_ix (me_var 1) (me_neg (me_int))) (ma_cons (me_var 2) (ma_nil))))) (me_int)))).mt)
  (mss_one (ms_popD 1)))
  (mss_one (ms_app 1 (me_var 2)))))
  (mss_one (ms_retV 1)))) sem, hm, F.kp, bb⟩
/-! ### field -/
abbrev s_field : Stmt := topS 23
theorem sc_field : FnScope ["points", "some"] ["points"] (defScope s_field) := ⟨rfl, rfl, rfl, by decide +kernel, rfl, by decide +kernel, by decide +kernel⟩
abbrev ms_field : List Bool := [false]
def t_field_3 (S_half_round : Fsp) : DS :=
  sRet (dCat (dCut (dCall ms_half_round S_half_round (aCons (dVar 1) (aNil))) (oNone) (oSome (dNeg (dC (.int 1))))) (dCut (dCall ms_half_round S_half_round (aCons (dRev (dVar 1)) (aNil))) (oNone) (oSome (dNeg (dC (.int 1))))))
def t_field_2 (S_half_round : Fsp) : DS :=
  sSeq (sIf (tVal (dEq (dB kLen (aCons (dVar 1) (aNil))) (dC (.int 1))))
  (sRetV 1)
  (sNil))
  (t_field_3 S_half_round)
def t_field_1 (S_half_round : Fsp) : DS :=
  sSeq (sAsg (dSortedSet (dVar 0)) (gN 1))
  (t_field_2 S_half_round)
def d_field (S_half_round : Fsp) : DS :=
  sSeq (sIf (tVal (dEq (dB kLen (aCons (dVar 0) (aNil))) (dC (.int 0))))
  (sRaise "NoField")
  (sNil))
  (t_field_1 S_half_round)
theorem ok_field {P : Program} {w : World} {K : PySem.W.Frag} {mg : MG} {base : Heap} {f : Addr} {fd : FuncData} {S_half_round : Fsp} {S : Fsp} (F : Fun K "field" "field" s_field f fd) (hm : mg "field" = some (.ref f)) (bb : Binds K fd ["points"] []) (B : Bs mg) (EX : Es K mg) (F_half_round : Cal P w K mg base 2 "half_round" ["points"] ms_half_round S_half_round)
    (sem : ∀ ds κ ε, S ds κ ε → d_field S_half_round (endsOf κ ε) (entry ms_field 2 ds)) : Cal P w K mg base 3 "field" ["points"] ms_field S :=
  ⟨f, fd, fn_dl (k := 2) F sc_field rfl (fun cdv A outer s H E C => mss_cons (ms_if (mt_eq C.hr.units (me_len B.len_ (ma_cons (me_var 0) (ma_nil))) (me_int))
  (mss_one (ms_raise C.hc C.tk EX.r_NoField))
  (mss_nil))
  (mss_cons (ms_set 1 C.nd (me_sortedSet C B.sorted_ B.set_ (me_var 0)))
  (mss_cons (ms_if (mt_eq C.hr.units (me_len B.len_ (ma_cons (me_var 1) (ma_nil))) (me_int))
  (mss_one (ms_retV 1))
  (mss_nil))
  (mss_one (ms_ret (me_cat (me_cut (me_callC C F_half_round (ma_cons (me_var 1) (ma_nil))) (mo_none) (mo_some (me_neg (me_int)))) (me_cut (me_callC C F_half_round (ma_cons (me_listRev C B.list_ B.reversed_ (me_var 1)) (ma_nil))) (mo_none) (mo_some (me_neg (me_int)))))))))) sem, hm, F.kp, bb⟩
/-! ### is_field -/
abbrev s_is_field : Stmt := topS 24
theorem sc_is_field : FnScope ["points"] ["points"] (defScope s_is_field) := ⟨rfl, rfl, rfl, by decide +kernel, rfl, by decide +kernel, by decide +kernel⟩
abbrev ms_is_field : List Bool := [false]
def t_is_field_1 (S_field : Fsp) : DS :=
  sRet (dEq (dCall ms_field S_field (aCons (dVar 0) (aNil))) (dVar 0))
def d_is_field (S_field : Fsp) : DS :=
  sSeq (sIf (tVal (dEq (dB kLen (aCons (dVar 0) (aNil))) (dC (.int 0))))
  (sRet (dC (.bl false)))
  (sNil))
  (t_is_field_1 S_field)
theorem ok_is_field {P : Program} {w : World} {K : PySem.W.Frag} {mg : MG} {base : Heap} {f : Addr} {fd : FuncData} {S_field : Fsp} {S : Fsp} (F : Fun K "is_field" "is_field" s_is_field f fd) (hm : mg "is_field" = some (.ref f)) (bb : Binds K fd ["points"] []) (B : Bs mg) (EX : Es K mg) (F_field : Cal P w K mg base 3 "field" ["points"] ms_field S_field)
    (sem : ∀ ds κ ε, S ds κ ε → d_is_field S_field (endsOf κ ε) (entry ms_is_field 1 ds)) : Cal P w K mg base 4 "is_field" ["points"] ms_is_field S :=
  ⟨f, fd, fn_dl (k := 3) F sc_is_field rfl (fun cdv A outer s H E C => mss_cons (ms_if (mt_eq C.hr.units (me_len B.len_ (ma_cons (me_var 0) (ma_nil))) (me_int))
  (mss_one (ms_ret (me_bl)))
  (mss_nil))
  (mss_one (ms_ret (me_eq C.hr.units (me_callC C F_field (ma_cons (me_var 0) (ma_nil))) (me_var 0))))) sem, hm, F.kp, bb⟩
/-! ### field_moved -/
abbrev s_field_moved : Stmt := topS 25
theorem sc_field_moved : FnScope ["land", "move", "corner"] ["land", "move"] (defScope s_field_moved) := ⟨rfl, rfl, rfl, by decide +kernel, rfl, by decide +kernel, by decide +kernel⟩
abbrev ms_field_moved : List Bool := [false, false]
def b_field_moved_1 (S_moved : Fsp) : DE :=
  dCall ms_moved S_moved (aCons (dVar 2) (aCons (dVar 1) (aNil)))
def d_field_moved (S_field : Fsp) (S_moved : Fsp) : DS :=
  sRet (dCall ms_field S_field (aCons (dLcX (iLst true (dVar 0)) (gN 2) tYesD (b_field_moved_1 S_moved) [2]) (aNil)))
theorem ok_field_moved {P : Program} {w : World} {K : PySem.W.Frag} {mg : MG} {base : Heap} {f : Addr} {fd : FuncData} {S_field : Fsp} {S_moved : Fsp} {S : Fsp} (F : Fun K "field_moved" "field_moved" s_field_moved f fd) (hm : mg "field_moved" = some (.ref f)) (bb : Binds K fd ["land", "move"] []) (B : Bs mg) (EX : Es K mg) (F_field : Cal P w K mg base 3 "field" ["points"] ms_field S_field) (F_moved : Cal P w K mg base 4 "moved" ["P", "move"] ms_moved S_moved)
    (sem : ∀ ds κ ε, S ds κ ε → d_field_moved S_field S_moved (endsOf κ ε) (entry ms_field_moved 3 ds)) : Cal P w K mg base 5 "field_moved" ["land", "move"] ms_field_moved S :=
  ⟨f, fd, fn_dl (k := 4) F sc_field_moved rfl (fun cdv A outer s H E C => mss_one (ms_ret (me_callC C F_field (ma_cons (me_lcX (own := [("corner", 2)]) rfl rfl C (mi_list (me_var 0)) (blkOk_by (N := ["land", "move", "corner"]) (sc := defScope s_field_moved) (by decide +kernel)) (fun _ => mg_name 2 (C).blk.nd) (fun _ => mts_nil) (fun f V pn xe tk po => me_callC ((C).blk.tr tk po) F_moved (ma_cons (me_var 2) (ma_cons (me_var 1) (ma_nil))))) (ma_nil))))) sem, hm, F.kp, bb⟩
/-! ### _law_cell -/
abbrev s_L_cell : Stmt := topS 27
theorem sc_L_cell : FnScope ["script", "k"] ["script", "k"] (defScope s_L_cell) := ⟨rfl, rfl, rfl, by decide +kernel, rfl, by decide +kernel, by decide +kernel⟩
abbrev ms_L_cell : List Bool := [false, false]
def t_L_cell_1 : DS :=
  sRet (dAdd (dAdd (dMul (dMul (dC (.int 7)) (dVar 1)) (dVar 1)) (dMul (dC (.int 3)) (dVar 1))) (dC (.int 1)))
def d_L_cell : DS :=
  sSeq (sIf (tVal (dLt (dVar 1) (dB kLen (aCons (dVar 0) (aNil)))))
  (sRet (dIx (dVar 0) (dVar 1)))
  (sNil))
  t_L_cell_1
theorem ok_L_cell {P : Program} {w : World} {K : PySem.W.Frag} {mg : MG} {base : Heap} {f : Addr} {fd : FuncData}  {S : Fsp} (F : Fun K "_law_cell" "_law_cell" s_L_cell f fd) (hm : mg "_law_cell" = some (.ref f)) (bb : Binds K fd ["script", "k"] []) (B : Bs mg) (EX : Es K mg) 
    (sem : ∀ ds κ ε, S ds κ ε → d_L_cell  (endsOf κ ε) (entry ms_L_cell 2 ds)) : Cal P w K mg base 1 "_law_cell" ["script", "k"] ms_L_cell S :=
  ⟨f, fd, fn_dl (k := 0) F sc_L_cell rfl (fun cdv A outer s H E C => mss_cons (ms_if (mt_lt (me_var 1) (me_len B.len_ (ma_cons (me_var 0) (ma_nil))))
  (mss_one (ms_ret (me_ix (me_var 0) (me_var 1))))
  (mss_nil))
  (mss_one (ms_ret (me_add (me_add (me_mul (me_mul (me_int) (me_var 1)) (me_var 1)) (me_mul (me_int) (me_var 1))) (me_int))))) sem, hm, F.kp, bb⟩
/-! ### _law_side -/
abbrev s_L_side : Stmt := topS 28
theorem sc_L_side : FnScope ["a", "b", "p"] ["a", "b", "p"] (defScope s_L_side) := ⟨rfl, rfl, rfl, by decide +kernel, rfl, by decide +kernel, by decide +kernel⟩
abbrev ms_L_side : List Bool := [false, false, false]
def d_L_side : DS :=
  sRet (dSub (dMul (dSub (dIx (dVar 1) (dC (.int 0))) (dIx (dVar 0) (dC (.int 0)))) (dSub (dIx (dVar 2) (dC (.int 1))) (dIx (dVar 0) (dC (.int 1))))) (dMul (dSub (dIx (dVar 1) (dC (.int 1))) (dIx (dVar 0) (dC (.int 1)))) (dSub (dIx (dVar 2) (dC (.int 0))) (dIx (dVar 0) (dC (.int 0))))))
theorem ok_L_side {P : Program} {w : World} {K : PySem.W.Frag} {mg : MG} {base : Heap} {f : Addr} {fd : FuncData}  {S : Fsp} (F : Fun K "_law_side" "_law_side" s_L_side f fd) (hm : mg "_law_side" = some (.ref f)) (bb : Binds K fd ["a", "b", "p"] []) (B : Bs mg) (EX : Es K mg) 
    (sem : ∀ ds κ ε, S ds κ ε → d_L_side  (endsOf κ ε) (entry ms_L_side 3 ds)) : Cal P w K mg base 1 "_law_side" ["a", "b", "p"] ms_L_side S :=
  ⟨f, fd, fn_dl (k := 0) F sc_L_side rfl (fun cdv A outer s H E C => mss_one (ms_ret (me_sub (me_mul (me_sub (me_ix (me_var 1) (me_int)) (me_ix (me_var 0) (me_int))) (me_sub (me_ix (me_var 2) (me_int)) (me_ix (me_var 0) (me_int)))) (me_mul (me_sub (me_ix (me_var 1) (me_int)) (me_ix (me_var 0) (me_int))) (me_sub (me_ix (me_var 2) (me_int)) (me_ix (me_var 0) (me_int))))))) sem, hm, F.kp, bb⟩
/-! ### _law_half -/
abbrev s_L_half : Stmt := topS 29
theorem sc_L_half : FnScope ["points", "way", "p"] ["points"] (defScope s_L_half) := ⟨rfl, rfl, rfl, by decide +kernel, rfl, by decide +kernel, by decide +kernel⟩
abbrev ms_L_half : List Bool := [false]
def b_L_half_1 (S_L_side : Fsp) : DT :=
  tAndD (tVal (dGt (dB kLen (aCons (dVar 1) (aNil))) (dC (.int 1)))) (tVal (dLe (dCall ms_L_side S_L_side (aCons (dIx (dVar 1) (dNeg (dC (.int 2)))) (aCons (dIx (dVar 1) (dNeg (dC (.int 1)))) (aCons (dVar 2) (aNil))))) (dC (.int 0))))
def b_L_half_2 : DS :=
  sPop 1 gDrop
def b_L_half_3 (S_L_side : Fsp) : DS :=
  sSeq (sWhile (b_L_half_1 S_L_side) b_L_half_2)
  (sApp 1 (dVar 2))
def t_L_half_2 (S_L_side : Fsp) : DS :=
  sRetV 1
def t_L_half_1 (S_L_side : Fsp) : DS :=
  sSeq (sFor (iLst false (dVar 0)) (gN 2) (b_L_half_3 S_L_side))
  (t_L_half_2 S_L_side)
def d_L_half (S_L_side : Fsp) : DS :=
  sSeq (sAsg (dLst (aNil)) (gN 1))
  (t_L_half_1 S_L_side)
theorem ok_L_half {P : Program} {w : World} {K : PySem.W.Frag} {mg : MG} {base : Heap} {f : Addr} {fd : FuncData} {S_L_side : Fsp} {S : Fsp} (F : Fun K "_law_half" "_law_half" s_L_half f fd) (hm : mg "_law_half" = some (.ref f)) (bb : Binds K fd ["points"] []) (B : Bs mg) (EX : Es K mg) (F_L_side : Cal P w K mg base 1 "_law_side" ["a", "b", "p"] ms_L_side S_L_side)
    (sem : ∀ ds κ ε, S ds κ ε → d_L_half S_L_side (endsOf κ ε) (entry ms_L_half 3 ds)) : Cal P w K mg base 2 "_law_half" ["points"] ms_L_half S :=
  ⟨f, fd, fn_dl (k := 1) F sc_L_half rfl (fun cdv A outer s H E C => mss_cons (ms_set 1 C.nd (me_lst (ma_nil)))
  (mss_cons (ms_for C (mi_list (me_var 0)) (mg_name 2 C.nd)
  (mss_cons (ms_while C ((mw_and (mt_gt (me_len B.len_ (ma_cons (me_var 1) (ma_nil))) (me_int)) (mw_and1 (mt_le (me_callC C F_L_side (ma_cons (me_ix (me_var 1) (me_neg (me_int))) (ma_cons (me_ix (me_var 1) (me_neg (me_int))) (ma_cons (me_var 2) (ma_nil))))) (me_int)))).mt)
  (mss_one (ms_popD 1)))
  (mss_one (ms_app 1 (me_var 2)))))
  (mss_one (ms_retV 1)))) sem, hm, F.kp, bb⟩
/-! ### _law_corners -/
abbrev s_L_corners : Stmt := topS 30
theorem sc_L_corners : FnScope ["points", "some"] ["points"] (defScope s_L_corners) := ⟨rfl, rfl, rfl, by decide +kernel, rfl, by decide +kernel, by decide +kernel⟩
abbrev ms_L_corners : List Bool := [false]
def t_L_corners_2 (S_L_half : Fsp) : DS :=
  sRet (dCat (dCut (dCall ms_L_half S_L_half (aCons (dVar 1) (aNil))) (oNone) (oSome (dNeg (dC (.int 1))))) (dCut (dCall ms_L_half S_L_half (aCons (dRev (dVar 1)) (aNil))) (oNone) (oSome (dNeg (dC (.int 1))))))
def t_L_corners_1 (S_L_half : Fsp) : DS :=
  sSeq (sIf (tVal (dLt (dB kLen (aCons (dVar 1) (aNil))) (dC (.int 2))))
  (sRetV 1)
  (sNil))
  (t_L_corners_2 S_L_half)
def d_L_corners (S_L_half : Fsp) : DS :=
  sSeq (sAsg (dSortedSet (dVar 0)) (gN 1))
  (t_L_corners_1 S_L_half)
theorem ok_L_corners {P : Program} {w : World} {K : PySem.W.Frag} {mg : MG} {base : Heap} {f : Addr} {fd : FuncData} {S_L_half : Fsp} {S : Fsp} (F : Fun K "_law_corners" "_law_corners" s_L_corners f fd) (hm : mg "_law_corners" = some (.ref f)) (bb : Binds K fd ["points"] []) (B : Bs mg) (EX : Es K mg) (F_L_half : Cal P w K mg base 2 "_law_half" ["points"] ms_L_half S_L_half)
    (sem : ∀ ds κ ε, S ds κ ε → d_L_corners S_L_half (endsOf κ ε) (entry ms_L_corners 2 ds)) : Cal P w K mg base 3 "_law_corners" ["points"] ms_L_corners S :=
  ⟨f, fd, fn_dl (k := 2) F sc_L_corners rfl (fun cdv A outer s H E C => mss_cons (ms_set 1 C.nd (me_sortedSet C B.sorted_ B.set_ (me_var 0)))
  (mss_cons (ms_if (mt_lt (me_len B.len_ (ma_cons (me_var 1) (ma_nil))) (me_int))
  (mss_one (ms_retV 1))
  (mss_nil))
  (mss_one (ms_ret (me_cat (me_cut (me_callC C F_L_half (ma_cons (me_var 1) (ma_nil))) (mo_none) (mo_some (me_neg (me_int)))) (me_cut (me_callC C F_L_half (ma_cons (me_listRev C B.list_ B.reversed_ (me_var 1)) (ma_nil))) (mo_none) (mo_some (me_neg (me_int))))))))) sem, hm, F.kp, bb⟩
/-! ### _law_great -/
abbrev s_L_great : Stmt := topS 31
theorem sc_L_great : FnScope ["cell", "most"] ["cell", "most"] (defScope s_L_great) := ⟨rfl, rfl, rfl, by decide +kernel, rfl, by decide +kernel, by decide +kernel⟩
abbrev ms_L_great : List Bool := [false, false]
def d_L_great : DS :=
  sRet (dSub (dModP (dMul (dVar 0) (dAdd (dDivP (dMul (dC (.int 37)) (dVar 1)) (dC (.int 10))) (dC (.int 60013)))) (dAdd (dMul (dC (.int 2)) (dVar 1)) (dC (.int 1)))) (dVar 1))
theorem ok_L_great {P : Program} {w : World} {K : PySem.W.Frag} {mg : MG} {base : Heap} {f : Addr} {fd : FuncData}  {S : Fsp} (F : Fun K "_law_great" "_law_great" s_L_great f fd) (hm : mg "_law_great" = some (.ref f)) (bb : Binds K fd ["cell", "most"] []) (B : Bs mg) (EX : Es K mg) 
    (sem : ∀ ds κ ε, S ds κ ε → d_L_great  (endsOf κ ε) (entry ms_L_great 2 ds)) : Cal P w K mg base 1 "_law_great" ["cell", "most"] ms_L_great S :=
  ⟨f, fd, fn_dl (k := 0) F sc_L_great rfl (fun cdv A outer s H E C => mss_one (ms_ret (me_sub (me_modP (me_mul (me_var 0) (me_add (me_divP (me_mul (me_int) (me_var 1)) (me_int)) (me_int))) (me_add (me_mul (me_int) (me_var 1)) (me_int))) (me_var 1)))) sem, hm, F.kp, bb⟩
/-! ### _law_land -/
abbrev s_L_land : Stmt := topS 32
theorem sc_L_land : FnScope ["script", "points", "k", "cell", "x", "y"] ["script"] (defScope s_L_land) := ⟨rfl, rfl, rfl, by decide +kernel, rfl, by decide +kernel, by decide +kernel⟩
abbrev ms_L_land : List Bool := [false]
def b_L_land_1 (S_L_cell : Fsp) (S_L_great : Fsp) : DS :=
  sSeq (sAsg (dCall ms_L_cell S_L_cell (aCons (dVar 0) (aCons (dVar 2) (aNil)))) (gN 3))
  (sSeq (sAsg (dSub (dModP (dVar 3) (dC (.int 13))) (dC (.int 6))) (gN 4))
  (sSeq (sAsg (dSub (dModP (dDivP (dVar 3) (dC (.int 13))) (dC (.int 13))) (dC (.int 6))) (gN 5))
  (sSeq (sIf (tVal (dEq (dModP (dCall ms_L_cell S_L_cell (aCons (dVar 0) (aCons (dC (.int 0)) (aNil)))) (dC (.int 3))) (dC (.int 1))))
  (sSeq (sAsg (dCall ms_L_great S_L_great (aCons (dVar 3) (aCons (dPow (dC (.int 10)) (dC (.int 40))) (aNil)))) (gN 4))
  (sAsg (dCall ms_L_great S_L_great (aCons (dDivP (dVar 3) (dC (.int 7))) (aCons (dPow (dC (.int 10)) (dC (.int 40))) (aNil)))) (gN 5)))
  (sNil))
  (sApp 1 (dTup (aCons (dVar 4) (aCons (dVar 5) (aNil))))))))
def t_L_land_2 (S_L_cell : Fsp) (S_L_great : Fsp) : DS :=
  sRetV 1
def t_L_land_1 (S_L_cell : Fsp) (S_L_great : Fsp) : DS :=
  sSeq (sFor (iRng2 (dC (.int 3)) (dB kMax2 (aCons (dC (.int 4)) (aCons (dB kMin2 (aCons (dB kLen (aCons (dVar 0) (aNil))) (aCons (dC (.int 62)) (aNil)))) (aNil))))) (gN 2) (b_L_land_1 S_L_cell S_L_great))
  (t_L_land_2 S_L_cell S_L_great)
def d_L_land (S_L_cell : Fsp) (S_L_great : Fsp) : DS :=
  sSeq (sAsg (dLst (aNil)) (gN 1))
  (t_L_land_1 S_L_cell S_L_great)
theorem ok_L_land {P : Program} {w : World} {K : PySem.W.Frag} {mg : MG} {base : Heap} {f : Addr} {fd : FuncData} {S_L_cell : Fsp} {S_L_great : Fsp} {S : Fsp} (F : Fun K "_law_land" "_law_land" s_L_land f fd) (hm : mg "_law_land" = some (.ref f)) (bb : Binds K fd ["script"] []) (B : Bs mg) (EX : Es K mg) (F_L_cell : Cal P w K mg base 1 "_law_cell" ["script", "k"] ms_L_cell S_L_cell) (F_L_great : Cal P w K mg base 1 "_law_great" ["cell", "most"] ms_L_great S_L_great)
    (sem : ∀ ds κ ε, S ds κ ε → d_L_land S_L_cell S_L_great (endsOf κ ε) (entry ms_L_land 6 ds)) : Cal P w K mg base 2 "_law_land" ["script"] ms_L_land S :=
  ⟨f, fd, fn_dl (k := 1) F sc_L_land rfl (fun cdv A outer s H E C => mss_cons (ms_set 1 C.nd (me_lst (ma_nil)))
  (mss_cons (ms_for C (mi_rng2 B.range_ (me_int) (me_max2 C.hc B.max_ (ma_cons (me_int) (ma_cons (me_min2 C.hc B.min_ (ma_cons (me_len B.len_ (ma_cons (me_var 0) (ma_nil))) (ma_cons (me_int) (ma_nil)))) (ma_nil))))) (mg_name 2 C.nd)
  (mss_cons (ms_set 3 C.nd (me_callC C F_L_cell (ma_cons (me_var 0) (ma_cons (me_var 2) (ma_nil)))))
  (mss_cons (ms_set 4 C.nd (me_sub (me_modP (me_var 3) (me_int)) (me_int)))
  (mss_cons (ms_set 5 C.nd (me_sub (me_modP (me_divP (me_var 3) (me_int)) (me_int)) (me_int)))
  (mss_cons (ms_if (mt_eq C.hr.units (me_modP (me_callC C F_L_cell (ma_cons (me_var 0) (ma_cons (me_int) (ma_nil)))) (me_int)) (me_int))
  (mss_cons (ms_set 4 C.nd (me_callC C F_L_great (ma_cons (me_var 3) (ma_cons (me_pow (me_int) (me_int)) (ma_nil)))))
  (mss_one (ms_set 5 C.nd (me_callC C F_L_great (ma_cons (me_divP (me_var 3) (me_int)) (ma_cons (me_pow (me_int) (me_int)) (ma_nil)))))))
  (mss_nil))
  (mss_one (ms_app 1 (me_tup (ma_cons (me_var 4) (ma_cons (me_var 5) (ma_nil)))))))))))
  (mss_one (ms_retV 1)))) sem, hm, F.kp, bb⟩
/-! ### _law_moves -/
abbrev s_L_moves : Stmt := topS 33
theorem sc_L_moves : FnScope ["script", "m", "n", "e", "f", "off", "good", "none"] ["script"] (defScope s_L_moves) := ⟨rfl, rfl, rfl, by decide +kernel, rfl, by decide +kernel, by decide +kernel⟩
abbrev ms_L_moves : List Bool := [false]
def t_L_moves_8 (S_L_great : Fsp) (S_L_cell : Fsp) : DS :=
  sRet (dCat (dCat (dLst (aCons (dVar 6) (aNil))) (dVar 7)) (dLst (aCons (dTup (aCons (dC (.bl true)) (aCons (dVar 1) (aCons (dVar 2) (aCons (dAdd (dC (.int 1)) (dMul (dVar 1) (dVar 2))) (aCons (dVar 3) (aCons (dVar 4) (aNil)))))))) (aCons (dTup (aCons (dC (.int 1)) (aCons (dVar 1) (aCons (dVar 2) (aCons (dAdd (dC (.int 1)) (dMul (dVar 1) (dVar 2))) (aCons (dVar 3) (aCons (dC (.str "0")) (aNil)))))))) (aCons (dTup (aCons (dVar 3) (aCons (dVar 4) (aNil)))) (aCons (dC .non) (aCons (dC (.str "1 0 0 1 0 0")) (aNil))))))))
def t_L_moves_7 (S_L_great : Fsp) (S_L_cell : Fsp) : DS :=
  sSeq (sApp 7 (dTup (aCons (dC (.int 1)) (aCons (dVar 1) (aCons (dVar 2) (aCons (dMul (dVar 1) (dVar 2)) (aCons (dVar 3) (aCons (dVar 4) (aNil)))))))))
  (t_L_moves_8 S_L_great S_L_cell)
def t_L_moves_6 (S_L_great : Fsp) (S_L_cell : Fsp) : DS :=
  sSeq (sAsg (dLst (aCons (dTup (aCons (dC (.int 1)) (aCons (dVar 1) (aCons (dVar 2) (aCons (dAdd (dAdd (dC (.int 1)) (dMul (dVar 1) (dVar 2))) (dVar 5)) (aCons (dVar 3) (aCons (dVar 4) (aNil)))))))) (aCons (dTup (aCons (dC (.int 1)) (aCons (dVar 1) (aCons (dVar 2) (aCons (dSub (dSub (dMul (dVar 1) (dVar 2)) (dC (.int 1))) (dVar 5)) (aCons (dVar 3) (aCons (dVar 4) (aNil)))))))) (aCons (dCut (dVar 6) (oNone) (oSome (dC (.int 5)))) (aCons (dCatT (dVar 6) (dTup (aCons (dC (.int 0)) (aNil)))) (aCons (dB kList (aCons (dVar 6) (aNil))) (aNil))))))) (gN 7))
  (t_L_moves_7 S_L_great S_L_cell)
def t_L_moves_5 (S_L_great : Fsp) (S_L_cell : Fsp) : DS :=
  sSeq (sAsg (dTup (aCons (dC (.int 1)) (aCons (dVar 1) (aCons (dVar 2) (aCons (dAdd (dC (.int 1)) (dMul (dVar 1) (dVar 2))) (aCons (dVar 3) (aCons (dVar 4) (aNil)))))))) (gN 6))
  (t_L_moves_6 S_L_great S_L_cell)
def t_L_moves_4 (S_L_great : Fsp) (S_L_cell : Fsp) : DS :=
  sSeq (sAsg (dAdd (dC (.int 1)) (dModP (dCall ms_L_cell S_L_cell (aCons (dVar 0) (aCons (dC (.int 2)) (aNil)))) (dPow (dC (.int 10)) (dC (.int 20))))) (gN 5))
  (t_L_moves_5 S_L_great S_L_cell)
def t_L_moves_3 (S_L_great : Fsp) (S_L_cell : Fsp) : DS :=
  sSeq (sAsg (dModP (dCall ms_L_cell S_L_cell (aCons (dVar 0) (aCons (dC (.int 2)) (aNil)))) (dPow (dC (.int 10)) (dC (.int 40)))) (gN 4))
  (t_L_moves_4 S_L_great S_L_cell)
def t_L_moves_2 (S_L_great : Fsp) (S_L_cell : Fsp) : DS :=
  sSeq (sAsg (dCall ms_L_great S_L_great (aCons (dDivP (dCall ms_L_cell S_L_cell (aCons (dVar 0) (aCons (dC (.int 1)) (aNil)))) (dC (.int 7))) (aCons (dPow (dC (.int 10)) (dC (.int 40))) (aNil)))) (gN 3))
  (t_L_moves_3 S_L_great S_L_cell)
def t_L_moves_1 (S_L_great : Fsp) (S_L_cell : Fsp) : DS :=
  sSeq (sAsg (dSub (dModP (dCall ms_L_cell S_L_cell (aCons (dVar 0) (aCons (dC (.int 1)) (aNil)))) (dC (.int 7))) (dC (.int 3))) (gN 2))
  (t_L_moves_2 S_L_great S_L_cell)
def d_L_moves (S_L_great : Fsp) (S_L_cell : Fsp) : DS :=
  sSeq (sAsg (dCall ms_L_great S_L_great (aCons (dDivP (dCall ms_L_cell S_L_cell (aCons (dVar 0) (aCons (dC (.int 0)) (aNil)))) (dC (.int 3))) (aCons (dPow (dC (.int 10)) (dC (.int 20))) (aNil)))) (gN 1))
  (t_L_moves_1 S_L_great S_L_cell)
theorem ok_L_moves {P : Program} {w : World} {K : PySem.W.Frag} {mg : MG} {base : Heap} {f : Addr} {fd : FuncData} {S_L_great : Fsp} {S_L_cell : Fsp} {S : Fsp} (F : Fun K "_law_moves" "_law_moves" s_L_moves f fd) (hm : mg "_law_moves" = some (.ref f)) (bb : Binds K fd ["script"] []) (B : Bs mg) (EX : Es K mg) (F_L_great : Cal P w K mg base 1 "_law_great" ["cell", "most"] ms_L_great S_L_great) (F_L_cell : Cal P w K mg base 1 "_law_cell" ["script", "k"] ms_L_cell S_L_cell)
    (sem : ∀ ds κ ε, S ds κ ε → d_L_moves S_L_great S_L_cell (endsOf κ ε) (entry ms_L_moves 8 ds)) : Cal P w K mg base 2 "_law_moves" ["script"] ms_L_moves S :=
  ⟨f, fd, fn_dl (k := 1) F sc_L_moves rfl (fun cdv A outer s H E C => mss_cons (ms_set 1 C.nd (me_callC C F_L_great (ma_cons (me_divP (me_callC C F_L_cell (ma_cons (me_var 0) (ma_cons (me_int) (ma_nil)))) (me_int)) (ma_cons (me_pow (me_int) (me_int)) (ma_nil)))))
  (mss_cons (ms_set 2 C.nd (me_sub (me_modP (me_callC C F_L_cell (ma_cons (me_var 0) (ma_cons (me_int) (ma_nil)))) (me_int)) (me_int)))
  (mss_cons (ms_set 3 C.nd (me_callC C F_L_great (ma_cons (me_divP (me_callC C F_L_cell (ma_cons (me_var 0) (ma_cons (me_int) (ma_nil)))) (me_int)) (ma_cons (me_pow (me_int) (me_int)) (ma_nil)))))
  (mss_cons (ms_set 4 C.nd (me_modP (me_callC C F_L_cell (ma_cons (me_var 0) (ma_cons (me_int) (ma_nil)))) (me_pow (me_int) (me_int))))
  (mss_cons (ms_set 5 C.nd (me_add (me_int) (me_modP (me_callC C F_L_cell (ma_cons (me_var 0) (ma_cons (me_int) (ma_nil)))) (me_pow (me_int) (me_int)))))
  (mss_cons (ms_set 6 C.nd (me_tup (ma_cons (me_int) (ma_cons (me_var 1) (ma_cons (me_var 2) (ma_cons (me_add (me_int) (me_mul (me_var 1) (me_var 2))) (ma_cons (me_var 3) (ma_cons (me_var 4) (ma_nil)))))))))
  (mss_cons (ms_set 7 C.nd (me_lst (ma_cons (me_tup (ma_cons (me_int) (ma_cons (me_var 1) (ma_cons (me_var 2) (ma_cons (me_add (me_add (me_int) (me_mul (me_var 1) (me_var 2))) (me_var 5)) (ma_cons (me_var 3) (ma_cons (me_var 4) (ma_nil)))))))) (ma_cons (me_tup (ma_cons (me_int) (ma_cons (me_var 1) (ma_cons (me_var 2) (ma_cons (me_sub (me_sub (me_mul (me_var 1) (me_var 2)) (me_int)) (me_var 5)) (ma_cons (me_var 3) (ma_cons (me_var 4) (ma_nil)))))))) (ma_cons (me_cut (me_var 6) (mo_none) (mo_some (me_int))) (ma_cons (me_catT (me_var 6) (me_tup (ma_cons (me_int) (ma_nil)))) (ma_cons (me_list B.list_ (ma_cons (me_var 6) (ma_nil))) (ma_nil))))))))
  (mss_cons (ms_app 7 (me_tup (ma_cons (me_int) (ma_cons (me_var 1) (ma_cons (me_var 2) (ma_cons (me_mul (me_var 1) (me_var 2)) (ma_cons (me_var 3) (ma_cons (me_var 4) (ma_nil)))))))))
  (mss_one (ms_ret (me_cat (me_cat (me_lst (ma_cons (me_var 6) (ma_nil))) (me_var 7)) (me_lst (ma_cons (me_tup (ma_cons (me_bl) (ma_cons (me_var 1) (ma_cons (me_var 2) (ma_cons (me_add (me_int) (me_mul (me_var 1) (me_var 2))) (ma_cons (me_var 3) (ma_cons (me_var 4) (ma_nil)))))))) (ma_cons (me_tup (ma_cons (me_int) (ma_cons (me_var 1) (ma_cons (me_var 2) (ma_cons (me_add (me_int) (me_mul (me_var 1) (me_var 2))) (ma_cons (me_var 3) (ma_cons (me_str) (ma_nil)))))))) (ma_cons (me_tup (ma_cons (me_var 3) (ma_cons (me_var 4) (ma_nil)))) (ma_cons (me_non) (ma_cons (me_str) (ma_nil)))))))))))))))))) sem, hm, F.kp, bb⟩
/-! ### _law_no_field -/
abbrev s_L_no_field : Stmt := topS 34
theorem sc_L_no_field : FnScope ["points", "kinds", "e"] ["points"] (defScope s_L_no_field) := ⟨rfl, rfl, rfl, by decide +kernel, rfl, by decide +kernel, by decide +kernel⟩
abbrev ms_L_no_field : List Bool := [false]
def t_L_no_field_2 (S_field : Fsp) : DS :=
  sRet (dEq (dVar 1) (dCat (dLst (aCons (dC (.bl true)) (aCons (dC (.bl true)) (aNil)))) (dRep (dLst (aCons (dC (.bl false)) (aNil))) (dC (.int 11)))))
def t_L_no_field_1 (S_field : Fsp) : DS :=
  sSeq (sTryAs exM "StakeError" 2 (sDrop (dCall ms_field S_field (aCons (dVar 0) (aNil)))) (fun a nm => sAsg (dLst (aCons (dIsx exI a nm 2 "ValueError") (aCons (dIsx exI a nm 2 "NoField") (aCons (dIsx exI a nm 2 "NoMove") (aCons (dIsx exI a nm 2 "NoNumber") (aCons (dIsx exI a nm 2 "Flat") (aCons (dIsx exI a nm 2 "TooMany") (aCons (dIsx exI a nm 2 "NotThere") (aCons (dIsx exI a nm 2 "NoWedge") (aCons (dIsx exI a nm 2 "NoHeart") (aCons (dIsx exI a nm 2 "NoText") (aCons (dIsx exI a nm 2 "NoName") (aCons (dIsx exI a nm 2 "NoRow") (aCons (dIsx exI a nm 2 "TooGreat") (aNil))))))))))))))) (gN 1)))
  (t_L_no_field_2 S_field)
def d_L_no_field (S_field : Fsp) : DS :=
  sSeq (sAsg (dLst (aNil)) (gN 1))
  (t_L_no_field_1 S_field)
theorem ok_L_no_field {P : Program} {w : World} {K : PySem.W.Frag} {mg : MG} {base : Heap} {f : Addr} {fd : FuncData} {S_field : Fsp} {S : Fsp} (F : Fun K "_law_no_field" "_law_no_field" s_L_no_field f fd) (hm : mg "_law_no_field" = some (.ref f)) (bb : Binds K fd ["points"] []) (B : Bs mg) (EX : Es K mg) (F_field : Cal P w K mg base 3 "field" ["points"] ms_field S_field)
    (sem : ∀ ds κ ε, S ds κ ε → d_L_no_field S_field (endsOf κ ε) (entry ms_L_no_field 3 ds)) : Cal P w K mg base 4 "_law_no_field" ["points"] ms_L_no_field S :=
  ⟨f, fd, fn_dl (k := 3) F sc_L_no_field rfl (fun cdv A outer s H E C => mss_cons (ms_set 1 C.nd (me_lst (ma_nil)))
  (mss_cons (ms_tryAs (is := exI) 2 rfl rfl C.nd C.tk EX.xs EX.c_StakeError (fun W pn xe tk po => mss_one (ms_drop (me_callC (C.tr tk po) F_field (ma_cons (me_var 0) (ma_nil)))))
  (fun a oe cls nm pn hz hfl hm => mss_one (ms_set 1 C.nd (me_lst (ma_cons (me_isx (ms := exM) 2 EX.xs hz hfl hm B.isinstance_) (ma_cons (me_isx (ms := exM) 2 EX.xs hz hfl hm B.isinstance_) (ma_cons (me_isx (ms := exM) 2 EX.xs hz hfl hm B.isinstance_) (ma_cons (me_isx (ms := exM) 2 EX.xs hz hfl hm B.isinstance_) (ma_cons (me_isx (ms := exM) 2 EX.xs hz hfl hm B.isinstance_) (ma_cons (me_isx (ms := exM) 2 EX.xs hz hfl hm B.isinstance_) (ma_cons (me_isx (ms := exM) 2 EX.xs hz hfl hm B.isinstance_) (ma_cons (me_isx (ms := exM) 2 EX.xs hz hfl hm B.isinstance_) (ma_cons (me_isx (ms := exM) 2 EX.xs hz hfl hm B.isinstance_) (ma_cons (me_isx (ms := exM) 2 EX.xs hz hfl hm B.isinstance_) (ma_cons (me_isx (ms := exM) 2 EX.xs hz hfl hm B.isinstance_) (ma_cons (me_isx (ms := exM) 2 EX.xs hz hfl hm B.isinstance_) (ma_cons (me_isx (ms := exM) 2 EX.xs hz hfl hm B.isinstance_) (ma_nil))))))))))))))))))
  (mss_one (ms_ret (me_eq C.hr.units (me_var 1) (me_cat (me_lst (ma_cons (me_bl) (ma_cons (me_bl) (ma_nil)))) (me_rep (me_lst (ma_cons (me_bl) (ma_nil))) (me_int)))))))) sem, hm, F.kp, bb⟩
/-! ### _law_no_move -/
abbrev s_L_no_move : Stmt := topS 35
theorem sc_L_no_move : FnScope ["land", "thing", "kinds", "e"] ["land", "thing"] (defScope s_L_no_move) := ⟨rfl, rfl, rfl, by decide +kernel, rfl, by decide +kernel, by decide +kernel⟩
abbrev ms_L_no_move : List Bool := [false, false]
def t_L_no_move_2 (S_field_moved : Fsp) : DS :=
  sRet (dEq (dVar 2) (dCat (dLst (aCons (dC (.bl true)) (aCons (dC (.bl true)) (aNil)))) (dRep (dLst (aCons (dC (.bl false)) (aNil))) (dC (.int 11)))))
def t_L_no_move_1 (S_field_moved : Fsp) : DS :=
  sSeq (sTryAs exM "StakeError" 3 (sDrop (dCall ms_field_moved S_field_moved (aCons (dVar 0) (aCons (dVar 1) (aNil))))) (fun a nm => sAsg (dLst (aCons (dIsx exI a nm 3 "ValueError") (aCons (dIsx exI a nm 3 "NoMove") (aCons (dIsx exI a nm 3 "NoField") (aCons (dIsx exI a nm 3 "NoNumber") (aCons (dIsx exI a nm 3 "Flat") (aCons (dIsx exI a nm 3 "TooMany") (aCons (dIsx exI a nm 3 "NotThere") (aCons (dIsx exI a nm 3 "NoWedge") (aCons (dIsx exI a nm 3 "NoHeart") (aCons (dIsx exI a nm 3 "NoText") (aCons (dIsx exI a nm 3 "NoName") (aCons (dIsx exI a nm 3 "NoRow") (aCons (dIsx exI a nm 3 "TooGreat") (aNil))))))))))))))) (gN 2)))
  (t_L_no_move_2 S_field_moved)
def d_L_no_move (S_field_moved : Fsp) : DS :=
  sSeq (sAsg (dLst (aNil)) (gN 2))
  (t_L_no_move_1 S_field_moved)
theorem ok_L_no_move {P : Program} {w : World} {K : PySem.W.Frag} {mg : MG} {base : Heap} {f : Addr} {fd : FuncData} {S_field_moved : Fsp} {S : Fsp} (F : Fun K "_law_no_move" "_law_no_move" s_L_no_move f fd) (hm : mg "_law_no_move" = some (.ref f)) (bb : Binds K fd ["land", "thing"] []) (B : Bs mg) (EX : Es K mg) (F_field_moved : Cal P w K mg base 5 "field_moved" ["land", "move"] ms_field_moved S_field_moved)
    (sem : ∀ ds κ ε, S ds κ ε → d_L_no_move S_field_moved (endsOf κ ε) (entry ms_L_no_move 4 ds)) : Cal P w K mg base 6 "_law_no_move" ["land", "thing"] ms_L_no_move S :=
  ⟨f, fd, fn_dl (k := 5) F sc_L_no_move rfl (fun cdv A outer s H E C => mss_cons (ms_set 2 C.nd (me_lst (ma_nil)))
  (mss_cons (ms_tryAs (is := exI) 3 rfl rfl C.nd C.tk EX.xs EX.c_StakeError (fun W pn xe tk po => mss_one (ms_drop (me_callC (C.tr tk po) F_field_moved (ma_cons (me_var 0) (ma_cons (me_var 1) (ma_nil))))))
  (fun a oe cls nm pn hz hfl hm => mss_one (ms_set 2 C.nd (me_lst (ma_cons (me_isx (ms := exM) 3 EX.xs hz hfl hm B.isinstance_) (ma_cons (me_isx (ms := exM) 3 EX.xs hz hfl hm B.isinstance_) (ma_cons (me_isx (ms := exM) 3 EX.xs hz hfl hm B.isinstance_) (ma_cons (me_isx (ms := exM) 3 EX.xs hz hfl hm B.isinstance_) (ma_cons (me_isx (ms := exM) 3 EX.xs hz hfl hm B.isinstance_) (ma_cons (me_isx (ms := exM) 3 EX.xs hz hfl hm B.isinstance_) (ma_cons (me_isx (ms := exM) 3 EX.xs hz hfl hm B.isinstance_) (ma_cons (me_isx (ms := exM) 3 EX.xs hz hfl hm B.isinstance_) (ma_cons (me_isx (ms := exM) 3 EX.xs hz hfl hm B.isinstance_) (ma_cons (me_isx (ms := exM) 3 EX.xs hz hfl hm B.isinstance_) (ma_cons (me_isx (ms := exM) 3 EX.xs hz hfl hm B.isinstance_) (ma_cons (me_isx (ms := exM) 3 EX.xs hz hfl hm B.isinstance_) (ma_cons (me_isx (ms := exM) 3 EX.xs hz hfl hm B.isinstance_) (ma_nil))))))))))))))))))
  (mss_one (ms_ret (me_eq C.hr.units (me_var 2) (me_cat (me_lst (ma_cons (me_bl) (ma_cons (me_bl) (ma_nil)))) (me_rep (me_lst (ma_cons (me_bl) (ma_nil))) (me_int)))))))) sem, hm, F.kp, bb⟩
/-! ### law -/
abbrev s_law : Stmt := topS 36
theorem sc_law : FnScope ["script", "points", "land", "handed", "moves", "good", "due", "x", "y", "thing"] ["script"] (defScope s_law) := ⟨rfl, rfl, rfl, by decide +kernel, rfl, by decide +kernel, by decide +kernel⟩
abbrev ms_law : List Bool := [false]
def b_law_1 : DE :=
  dTup (aCons (dAdd (dAdd (dVar 7) (dMul (dIx (dVar 5) (dC (.int 1))) (dVar 8))) (dIx (dVar 5) (dC (.int 4)))) (aCons (dAdd (dAdd (dMul (dIx (dVar 5) (dC (.int 2))) (dVar 7)) (dMul (dIx (dVar 5) (dC (.int 3))) (dVar 8))) (dIx (dVar 5) (dC (.int 5)))) (aNil)))
def b_law_2 (S_L_no_move : Fsp) (S_field_moved : Fsp) : DS :=
  sIf (tOrD (tNotD (tVal (dCall ms_L_no_move S_L_no_move (aCons (dVar 3) (aCons (dVar 9) (aNil)))))) (tOrD (tVal (dNe (dVar 3) (dVar 2))) (tVal (dNe (dCall ms_field_moved S_field_moved (aCons (dVar 3) (aCons (dVar 5) (aNil)))) (dVar 6)))))
  (sRet (dC (.bl false)))
  (sNil)
def t_law_11 (S_L_land : Fsp) (S_L_corners : Fsp) (S_L_no_field : Fsp) (S_is_field : Fsp) (S_field : Fsp) (S_L_moves : Fsp) (S_L_no_move : Fsp) (S_field_moved : Fsp) : DS :=
  sRet (dC (.bl true))
def t_law_10 (S_L_land : Fsp) (S_L_corners : Fsp) (S_L_no_field : Fsp) (S_is_field : Fsp) (S_field : Fsp) (S_L_moves : Fsp) (S_L_no_move : Fsp) (S_field_moved : Fsp) : DS :=
  sSeq (sFor (iLst false (dCut (dVar 4) (oSome (dC (.int 1))) (oNone))) (gN 9) (b_law_2 S_L_no_move S_field_moved))
  (t_law_11 S_L_land S_L_corners S_L_no_field S_is_field S_field S_L_moves S_L_no_move S_field_moved)
def t_law_9 (S_L_land : Fsp) (S_L_corners : Fsp) (S_L_no_field : Fsp) (S_is_field : Fsp) (S_field : Fsp) (S_L_moves : Fsp) (S_L_no_move : Fsp) (S_field_moved : Fsp) : DS :=
  sSeq (sAsg (dB kList (aCons (dVar 2) (aNil))) (gN 3))
  (t_law_10 S_L_land S_L_corners S_L_no_field S_is_field S_field S_L_moves S_L_no_move S_field_moved)
def t_law_8 (S_L_land : Fsp) (S_L_corners : Fsp) (S_L_no_field : Fsp) (S_is_field : Fsp) (S_field : Fsp) (S_L_moves : Fsp) (S_L_no_move : Fsp) (S_field_moved : Fsp) : DS :=
  sSeq (sAsg (dCall ms_L_corners S_L_corners (aCons (dLc (iLst true (dVar 2)) (gT 2 (gsCons (gN 7) (gsCons (gN 8) (gsNil)))) tYesD b_law_1 [7, 8]) (aNil))) (gN 6))
  (t_law_9 S_L_land S_L_corners S_L_no_field S_is_field S_field S_L_moves S_L_no_move S_field_moved)
def t_law_7 (S_L_land : Fsp) (S_L_corners : Fsp) (S_L_no_field : Fsp) (S_is_field : Fsp) (S_field : Fsp) (S_L_moves : Fsp) (S_L_no_move : Fsp) (S_field_moved : Fsp) : DS :=
  sSeq (sAsg (dIx (dVar 4) (dC (.int 0))) (gN 5))
  (t_law_8 S_L_land S_L_corners S_L_no_field S_is_field S_field S_L_moves S_L_no_move S_field_moved)
def t_law_6 (S_L_land : Fsp) (S_L_corners : Fsp) (S_L_no_field : Fsp) (S_is_field : Fsp) (S_field : Fsp) (S_L_moves : Fsp) (S_L_no_move : Fsp) (S_field_moved : Fsp) : DS :=
  sSeq (sAsg (dCall ms_L_moves S_L_moves (aCons (dVar 0) (aNil))) (gN 4))
  (t_law_7 S_L_land S_L_corners S_L_no_field S_is_field S_field S_L_moves S_L_no_move S_field_moved)
def t_law_5 (S_L_land : Fsp) (S_L_corners : Fsp) (S_L_no_field : Fsp) (S_is_field : Fsp) (S_field : Fsp) (S_L_moves : Fsp) (S_L_no_move : Fsp) (S_field_moved : Fsp) : DS :=
  sSeq (sIf (tOrD (tVal (dNe (dCall ms_field S_field (aCons (dVar 3) (aNil))) (dLst (aCons (dIx (dVar 1) (dC (.int 0))) (aNil))))) (tVal (dIsB true true (dCall ms_is_field S_is_field (aCons (dVar 3) (aNil))))))
  (sRet (dC (.bl false)))
  (sNil))
  (t_law_6 S_L_land S_L_corners S_L_no_field S_is_field S_field S_L_moves S_L_no_move S_field_moved)
def t_law_4 (S_L_land : Fsp) (S_L_corners : Fsp) (S_L_no_field : Fsp) (S_is_field : Fsp) (S_field : Fsp) (S_L_moves : Fsp) (S_L_no_move : Fsp) (S_field_moved : Fsp) : DS :=
  sSeq (sApp 3 (dIx (dVar 1) (dC (.int 0))))
  (t_law_5 S_L_land S_L_corners S_L_no_field S_is_field S_field S_L_moves S_L_no_move S_field_moved)
def t_law_3 (S_L_land : Fsp) (S_L_corners : Fsp) (S_L_no_field : Fsp) (S_is_field : Fsp) (S_field : Fsp) (S_L_moves : Fsp) (S_L_no_move : Fsp) (S_field_moved : Fsp) : DS :=
  sSeq (sIf (tOrD (tNotD (tVal (dCall ms_L_no_field S_L_no_field (aCons (dVar 3) (aNil))))) (tOrD (tVal (dNe (dVar 3) (dLst (aNil)))) (tOrD (tVal (dIsB true false (dCall ms_is_field S_is_field (aCons (dLst (aNil)) (aNil))))) (tNotD (tVal (dCall ms_L_no_field S_L_no_field (aCons (dLst (aNil)) (aNil))))))))
  (sRet (dC (.bl false)))
  (sNil))
  (t_law_4 S_L_land S_L_corners S_L_no_field S_is_field S_field S_L_moves S_L_no_move S_field_moved)
def t_law_2 (S_L_land : Fsp) (S_L_corners : Fsp) (S_L_no_field : Fsp) (S_is_field : Fsp) (S_field : Fsp) (S_L_moves : Fsp) (S_L_no_move : Fsp) (S_field_moved : Fsp) : DS :=
  sSeq (sAsg (dLst (aNil)) (gN 3))
  (t_law_3 S_L_land S_L_corners S_L_no_field S_is_field S_field S_L_moves S_L_no_move S_field_moved)
def t_law_1 (S_L_land : Fsp) (S_L_corners : Fsp) (S_L_no_field : Fsp) (S_is_field : Fsp) (S_field : Fsp) (S_L_moves : Fsp) (S_L_no_move : Fsp) (S_field_moved : Fsp) : DS :=
  sSeq (sAsg (dCall ms_L_corners S_L_corners (aCons (dVar 1) (aNil))) (gN 2))
  (t_law_2 S_L_land S_L_corners S_L_no_field S_is_field S_field S_L_moves S_L_no_move S_field_moved)
def d_law (S_L_land : Fsp) (S_L_corners : Fsp) (S_L_no_field : Fsp) (S_is_field : Fsp) (S_field : Fsp) (S_L_moves : Fsp) (S_L_no_move : Fsp) (S_field_moved : Fsp) : DS :=
  sSeq (sAsg (dCall ms_L_land S_L_land (aCons (dVar 0) (aNil))) (gN 1))
  (t_law_1 S_L_land S_L_corners S_L_no_field S_is_field S_field S_L_moves S_L_no_move S_field_moved)
theorem ok_law {P : Program} {w : World} {K : PySem.W.Frag} {mg : MG} {base : Heap} {f : Addr} {fd : FuncData} {S_L_land : Fsp} {S_L_corners : Fsp} {S_L_no_field : Fsp} {S_is_field : Fsp} {S_field : Fsp} {S_L_moves : Fsp} {S_L_no_move : Fsp} {S_field_moved : Fsp} {S : Fsp} (F : Fun K "law" "law" s_law f fd) (hm : mg "law" = some (.ref f)) (bb : Binds K fd ["script"] []) (B : Bs mg) (EX : Es K mg) (F_L_land : Cal P w K mg base 2 "_law_land" ["script"] ms_L_land S_L_land) (F_L_corners : Cal P w K mg base 3 "_law_corners" ["points"] ms_L_corners S_L_corners) (F_L_no_field : Cal P w K mg base 4 "_law_no_field" ["points"] ms_L_no_field S_L_no_field) (F_is_field : Cal P w K mg base 4 "is_field" ["points"] ms_is_field S_is_field) (F_field : Cal P w K mg base 3 "field" ["points"] ms_field S_field) (F_L_moves : Cal P w K mg base 2 "_law_moves" ["script"] ms_L_moves S_L_moves) (F_L_no_move : Cal P w K mg base 6 "_law_no_move" ["land", "thing"] ms_L_no_move S_L_no_move) (F_field_moved : Cal P w K mg base 5 "field_moved" ["land", "move"] ms_field_moved S_field_moved)
    (sem : ∀ ds κ ε, S ds κ ε → d_law S_L_land S_L_corners S_L_no_field S_is_field S_field S_L_moves S_L_no_move S_field_moved (endsOf κ ε) (entry ms_law 10 ds)) : Cal P w K mg base 7 "law" ["script"] ms_law S :=
  ⟨f, fd, fn_dl (k := 6) F sc_law rfl (fun cdv A outer s H E C => mss_cons (ms_set 1 C.nd (me_callC C F_L_land (ma_cons (me_var 0) (ma_nil))))
  (mss_cons (ms_set 2 C.nd (me_callC C F_L_corners (ma_cons (me_var 1) (ma_nil))))
  (mss_cons (ms_set 3 C.nd (me_lst (ma_nil)))
  (mss_cons (ms_if ((mw_or (mt_not (mt_val (me_callC C F_L_no_field (ma_cons (me_var 3) (ma_nil))))) (mw_or (mt_ne C.hr.units (me_var 3) (me_lst (ma_nil))) (mw_or (mt_isBn (me_callC C F_is_field (ma_cons (me_lst (ma_nil)) (ma_nil)))) (mw_or1 (mt_not (mt_val (me_callC C F_L_no_field (ma_cons (me_lst (ma_nil)) (ma_nil))))))))).mt)
  (mss_one (ms_ret (me_bl)))
  (mss_nil))
  (mss_cons (ms_app 3 (me_ix (me_var 1) (me_int)))
  (mss_cons (ms_if ((mw_or (mt_ne C.hr.units (me_callC C F_field (ma_cons (me_var 3) (ma_nil))) (me_lst (ma_cons (me_ix (me_var 1) (me_int)) (ma_nil)))) (mw_or1 (mt_isBn (me_callC C F_is_field (ma_cons (me_var 3) (ma_nil)))))).mt)
  (mss_one (ms_ret (me_bl)))
  (mss_nil))
  (mss_cons (ms_set 4 C.nd (me_callC C F_L_moves (ma_cons (me_var 0) (ma_nil))))
  (mss_cons (ms_set 5 C.nd (me_ix (me_var 4) (me_int)))
  (mss_cons (ms_set 6 C.nd (me_callC C F_L_corners (ma_cons (me_lc (own := [("x", 7), ("y", 8)]) C (mi_list (me_var 2)) (blkOk_by (N := ["script", "points", "land", "handed", "moves", "good", "due", "x", "y", "thing"]) (sc := defScope s_law) (by decide +kernel)) (fun _ => mg_tup (C).blk.hc (mgs_cons (mg_name 7 (C).blk.nd) (mgs_cons (mg_name 8 (C).blk.nd) (mgs_nil)))) (fun _ => mts_nil) (fun _ => me_tup (ma_cons (me_add (me_add (me_var 7) (me_mul (me_ix (me_var 5) (me_int)) (me_var 8))) (me_ix (me_var 5) (me_int))) (ma_cons (me_add (me_add (me_mul (me_ix (me_var 5) (me_int)) (me_var 7)) (me_mul (me_ix (me_var 5) (me_int)) (me_var 8))) (me_ix (me_var 5) (me_int))) (ma_nil))))) (ma_nil))))
  (mss_cons (ms_set 3 C.nd (me_list B.list_ (ma_cons (me_var 2) (ma_nil))))
  (mss_cons (ms_for C (mi_list (me_cut (me_var 4) (mo_some (me_int)) (mo_none))) (mg_name 9 C.nd)
  (mss_one (ms_if ((mw_or (mt_not (mt_val (me_callC C F_L_no_move (ma_cons (me_var 3) (ma_cons (me_var 9) (ma_nil)))))) (mw_or (mt_ne C.hr.units (me_var 3) (me_var 2)) (mw_or1 (mt_ne C.hr.units (me_callC C F_field_moved (ma_cons (me_var 3) (ma_cons (me_var 5) (ma_nil)))) (me_var 6))))).mt)
  (mss_one (ms_ret (me_bl)))
  (mss_nil))))
  (mss_one (ms_ret (me_bl)))))))))))))) sem, hm, F.kp, bb⟩
theorem fn_law {P : Program} {w : World} {K : PySem.W.Frag} {mg : MG} {base : Heap} {f : Addr} {fd : FuncData} {S_L_land : Fsp} {S_L_corners : Fsp} {S_L_no_field : Fsp} {S_is_field : Fsp} {S_field : Fsp} {S_L_moves : Fsp} {S_L_no_move : Fsp} {S_field_moved : Fsp} {S : Fsp} (F : Fun K "law" "law" s_law f fd) (B : Bs mg) (EX : Es K mg) (F_L_land : Cal P w K mg base 2 "_law_land" ["script"] ms_L_land S_L_land) (F_L_corners : Cal P w K mg base 3 "_law_corners" ["points"] ms_L_corners S_L_corners) (F_L_no_field : Cal P w K mg base 4 "_law_no_field" ["points"] ms_L_no_field S_L_no_field) (F_is_field : Cal P w K mg base 4 "is_field" ["points"] ms_is_field S_is_field) (F_field : Cal P w K mg base 3 "field" ["points"] ms_field S_field) (F_L_moves : Cal P w K mg base 2 "_law_moves" ["script"] ms_L_moves S_L_moves) (F_L_no_move : Cal P w K mg base 6 "_law_no_move" ["land", "thing"] ms_L_no_move S_L_no_move) (F_field_moved : Cal P w K mg base 5 "field_moved" ["land", "move"] ms_field_moved S_field_moved)
    (sem : ∀ ds κ ε, S ds κ ε → d_law S_L_land S_L_corners S_L_no_field S_is_field S_field S_L_moves S_L_no_move S_field_moved (endsOf κ ε) (entry ms_law 10 ds)) : FnOk P w K mg base (L2.CX P w) 7 f fd ["script"] (spOf K mg ms_law S) :=
  fn_dl (k := 6) F sc_law rfl (fun cdv A outer s H E C => mss_cons (ms_set 1 C.nd (me_callC C F_L_land (ma_cons (me_var 0) (ma_nil))))
  (mss_cons (ms_set 2 C.nd (me_callC C F_L_corners (ma_cons (me_var 1) (ma_nil))))
  (mss_cons (ms_set 3 C.nd (me_lst (ma_nil)))
  (mss_cons (ms_if ((mw_or (mt_not (mt_val (me_callC C F_L_no_field (ma_cons (me_var 3) (ma_nil))))) (mw_or (mt_ne C.hr.units (me_var 3) (me_lst (ma_nil))) (mw_or (mt_isBn (me_callC C F_is_field (ma_cons (me_lst (ma_nil)) (ma_nil)))) (mw_or1 (mt_not (mt_val (me_callC C F_L_no_field (ma_cons (me_lst (ma_nil)) (ma_nil))))))))).mt)
  (mss_one (ms_ret (me_bl)))
  (mss_nil))
  (mss_cons (ms_app 3 (me_ix (me_var 1) (me_int)))
  (mss_cons (ms_if ((mw_or (mt_ne C.hr.units (me_callC C F_field (ma_cons (me_var 3) (ma_nil))) (me_lst (ma_cons (me_ix (me_var 1) (me_int)) (ma_nil)))) (mw_or1 (mt_isBn (me_callC C F_is_field (ma_cons (me_var 3) (ma_nil)))))).mt)
  (mss_one (ms_ret (me_bl)))
  (mss_nil))
  (mss_cons (ms_set 4 C.nd (me_callC C F_L_moves (ma_cons (me_var 0) (ma_nil))))
  (mss_cons (ms_set 5 C.nd (me_ix (me_var 4) (me_int)))
  (mss_cons (ms_set 6 C.nd (me_callC C F_L_corners (ma_cons (me_lc (own := [("x", 7), ("y", 8)]) C (mi_list (me_var 2)) (blkOk_by (N := ["script", "points", "land", "handed", "moves", "good", "due", "x", "y", "thing"]) (sc := defScope s_law) (by decide +kernel)) (fun _ => mg_tup (C).blk.hc (mgs_cons (mg_name 7 (C).blk.nd) (mgs_cons (mg_name 8 (C).blk.nd) (mgs_nil)))) (fun _ => mts_nil) (fun _ => me_tup (ma_cons (me_add (me_add (me_var 7) (me_mul (me_ix (me_var 5) (me_int)) (me_var 8))) (me_ix (me_var 5) (me_int))) (ma_cons (me_add (me_add (me_mul (me_ix (me_var 5) (me_int)) (me_var 7)) (me_mul (me_ix (me_var 5) (me_int)) (me_var 8))) (me_ix (me_var 5) (me_int))) (ma_nil))))) (ma_nil))))
  (mss_cons (ms_set 3 C.nd (me_list B.list_ (ma_cons (me_var 2) (ma_nil))))
  (mss_cons (ms_for C (mi_list (me_cut (me_var 4) (mo_some (me_int)) (mo_none))) (mg_name 9 C.nd)
  (mss_one (ms_if ((mw_or (mt_not (mt_val (me_callC C F_L_no_move (ma_cons (me_var 3) (ma_cons (me_var 9) (ma_nil)))))) (mw_or (mt_ne C.hr.units (me_var 3) (me_var 2)) (mw_or1 (mt_ne C.hr.units (me_callC C F_field_moved (ma_cons (me_var 3) (ma_cons (me_var 5) (ma_nil)))) (me_var 6))))).mt)
  (mss_one (ms_ret (me_bl)))
  (mss_nil))))
  (mss_one (ms_ret (me_bl)))))))))))))) sem
end Py
local macro_rules | `(tactic| walk_at "bt") => `(tactic| first
  | assumption
  | ((with_reducible apply DL.Bt.add) <;> walk_at "bt")
  | ((with_reducible apply DL.Bt.sub) <;> walk_at "bt")
  | ((with_reducible apply DL.Bt.mul) <;> walk_at "bt")
  | ((with_reducible apply DL.Bt.neg) <;> walk_at "bt")
  | with_reducible exact DL.Bt.emod' (by decide +kernel)
  | ((with_reducible apply DL.Bt.ediv) <;> walk_at "bt")
  | ((with_reducible apply DL.Bt.ite) <;> walk_at "bt")
  | ((with_reducible apply DL.BP.x) <;> assumption)
  | ((with_reducible apply DL.BP.y) <;> assumption)
  | with_reducible exact DL.Bt.any)
local macro_rules | `(tactic| walk_at "btl") => `(tactic| ((apply DL.Bt.le); (focus (walk_at "bt")); decide +kernel))
local macro_rules | `(tactic| walk_at "side") => `(tactic| first
  | with_reducible exact rfl
  | ((with_reducible apply DL.modp_lit); decide +kernel)
  | ((with_reducible apply DL.divp_lit); decide +kernel)
  | ((with_reducible apply DL.cpow_lit); decide +kernel)
  | ((with_reducible apply DL.mulok); (focus (walk_at "bt")); (focus (walk_at "bt")); decide +kernel)
  | with_reducible exact DL.Cls.modp (by assumption)
  | with_reducible exact DL.Cls.rng (by assumption)
  | exact ⟨rfl, rfl⟩
  | exact rfl)
local macro_rules | `(tactic| walk_at "go") => `(tactic| repeat (refine ⟨by walk_at "side", ?_⟩))
local macro_rules | `(tactic| walk_at "st1") => `(tactic| first
  | refine ⟨by walk_at "side", ?_⟩
  | refine DL.ifF rfl ?_
  | refine DL.ifT rfl ?_
  | (refine DL.Cls.ix ?_ _ ?_; assumption; intro _ _)
  | (refine DL.S_num_go ?_ ?_; (focus (walk_at "btl")); intro _ _)
  | walk_at "call")
local macro_rules | `(tactic| walk_at "st") => `(tactic| repeat (walk_at "st1"))
local macro_rules | `(tactic| walk_at "br") => `(tactic| repeat' (first | walk_at "st1" | refine DL.ifb (fun _ => ?_) (fun _ => ?_)))
local macro_rules | `(tactic| walk_at "ite") => `(tactic| ((repeat' split) <;> omega))
local macro_rules | `(tactic| walk_at "rng3") => `(tactic| (refine ⟨DL.rN _ _ _, DL.rgC_up ?_ ?_ ?_ ?_ ?_ ?_, ?_⟩; decide; decide; (focus (walk_at "ite")); (focus (walk_at "ite")); decide; decide))
local macro_rules | `(tactic| walk_at "nz") => `(tactic| dsimp only [List.set_cons_succ, List.set_cons_zero])
local macro_rules | `(tactic| walk_at "w") => `(tactic| conv => whnf)
local macro_rules | `(tactic| walk_at "lp") => `(tactic| (walk_at "w"; refine ⟨rfl, ?_⟩; walk_at "w"))
local macro_rules | `(tactic| walk_at "isx") => `(tactic| repeat (first | refine ⟨rfl, ?_⟩ | refine DL.onS_some rfl ?_ | refine ⟨Nat.le_of_lt (DL.sz_ok (by decide)), ?_⟩))
local macro_rules | `(tactic| walk_at "eq") => `(tactic| (refine ⟨⟨rfl, rfl⟩, ?_⟩; walk_at "w"))
local macro_rules | `(tactic| walk_at "au") => `(tactic| repeat (first | (refine DL.onS_some rfl ?_; walk_at "w") | (refine ⟨⟨rfl, rfl⟩, ?_⟩; walk_at "w") | (refine ⟨rfl, ?_⟩; walk_at "w") | (refine ⟨by walk_at "side", ?_⟩; walk_at "w") | (refine ⟨Nat.le_of_lt (DL.sz_ok (by decide)), ?_⟩; walk_at "w")))
local macro_rules | `(tactic| walk_at "au1") => `(tactic| (walk_at "w"; first | refine DL.onS_some rfl ?_ | refine ⟨⟨rfl, rfl⟩, ?_⟩ | refine ⟨rfl, ?_⟩ | refine ⟨by walk_at "side", ?_⟩ | refine ⟨Nat.le_of_lt (DL.sz_ok (by decide)), ?_⟩))
namespace Py
open PySem PySem.Spec PyProof.Rows L2 DL Mov
@[irreducible] def S_is_whole : Fsp := fun ds κ _ => ∃ d, ds = [d] ∧ κ (.v (.bl (isInt d)))
theorem is_whole_go {d : Dat} {κ : Rv → Prop} {ε : Str → Prop} (k : κ (.v (.bl (isInt d)))) : S_is_whole [d] κ ε := by
  unfold S_is_whole; exact ⟨d, rfl, k⟩
theorem sem_is_whole : ∀ ds κ ε, S_is_whole ds κ ε → d_is_whole (endsOf κ ε) (entry ms_is_whole 1 ds) := by
  intro ds κ ε h
  unfold S_is_whole at h
  obtain ⟨d, rfl, k⟩ := h
  cases d <;> exact ⟨rfl, k⟩
end Py
local macro_rules | `(tactic| walk_at "call") => `(tactic| refine Py.is_whole_go ?_)
namespace Py
open PySem PySem.Spec PyProof.Rows L2 DL Mov
@[irreducible] def S_is_move : Fsp := fun ds κ _ => ∃ d, ds = [d] ∧ (∀ m, d = mv m → BM 20000 m) ∧ κ (.v (.bl (moveB d)))
theorem is_move_go {d : Dat} {κ : Rv → Prop} {ε : Str → Prop} (h : ∀ m, d = mv m → BM 20000 m) (k : κ (.v (.bl (moveB d)))) : S_is_move [d] κ ε := by
  unfold S_is_move; exact ⟨d, rfl, h, k⟩
theorem int_of {d : Dat} (h : Mov.isInt d = true) : ∃ i, d = .int i := by
  unfold Mov.isInt at h; split at h
  · exact ⟨_, rfl⟩
  · exact nomatch h
theorem six_ints : ∀ (ps : List Dat), ps.length = 6 → (∀ p ∈ ps, Mov.isInt p = true) → sixB (.tup ps) = true
  | [a, b, c, d, e, f], _, h => by
    obtain ⟨_, rfl⟩ := int_of (h a (by simp))
    obtain ⟨_, rfl⟩ := int_of (h b (by simp))
    obtain ⟨_, rfl⟩ := int_of (h c (by simp))
    obtain ⟨_, rfl⟩ := int_of (h d (by simp))
    obtain ⟨_, rfl⟩ := int_of (h e (by simp))
    obtain ⟨_, rfl⟩ := int_of (h f (by simp))
    rfl
theorem not_six {ps : List Dat} {p : Dat} (hp : p ∈ ps) (h : Mov.isInt p = false) : sixB (.tup ps) = false := by
  unfold sixB
  split
  · rename_i e
    injection e with e
    subst e
    simp only [List.mem_cons, List.not_mem_nil, or_false] at hp
    rcases hp with rfl | rfl | rfl | rfl | rfl | rfl <;> exact nomatch h
  · rfl
theorem sem_is_move : ∀ ds κ ε, S_is_move ds κ ε → d_is_move S_is_whole (endsOf κ ε) (entry ms_is_move 2 ds) := by
  intro ds κ ε h
  unfold S_is_move at h
  obtain ⟨d, rfl, hb, k⟩ := h
  cases d with
  | tup ps =>
    refine ⟨⟨rfl, rfl⟩, ifNe (fun hl => ?_) fun hl => ?_⟩
    · have e : moveB (.tup ps) = false := by
        have : sixB (.tup ps) = false := by
          unfold sixB
          split
          · rename_i e; injection e with e; subst e; exact absurd rfl hl
          · rfl
        unfold moveB; rw [this]; rfl
      rw [e] at k
      exact ⟨rfl, k⟩
    · have hl : ps.length = 6 := by omega
      refine ⟨rfl, ?_⟩
      refine for_ind (fun i ρ => (∃ s1, ρ = [.fz (.tup ps), s1]) ∧ ∀ j p, j < i → ps[j]? = some p → Mov.isInt p = true) ⟨⟨_, rfl⟩, fun j p h => absurd h (Nat.not_lt_zero _)⟩ (fun i p ρ N hp h hN => ?_) (fun ρ h => ?_)
      · obtain ⟨⟨s1, rfl⟩, ha⟩ := h
        walk_at "st"
        refine ifNot (fun h0 => ?_) fun h1 => ?_
        · have e : moveB (.tup ps) = false := by unfold moveB; rw [not_six (List.mem_of_getElem? hp) h0]; rfl
          rw [e] at k
          exact ⟨rfl, k⟩
        · refine hN _ ⟨⟨_, rfl⟩, fun j q hj hq => ?_⟩
          by_cases e : j = i
          · subst e; rw [hp] at hq; cases hq; exact h1
          · exact ha j q (by omega) hq
      · obtain ⟨⟨s1, rfl⟩, ha⟩ := h
        have h6 := six_ints ps hl fun p hm => by
          obtain ⟨j, hj⟩ := List.getElem?_of_mem hm
          have : j < ps.length := by
            by_cases z : j < ps.length
            · exact z
            · rw [List.getElem?_eq_none (by omega)] at hj; exact nomatch hj
          exact ha j p this hj
        obtain ⟨m, hm⟩ := six_of h6
        have bm := hb m hm
        rw [hm, moveB_mv] at k
        injection hm with hm
        subst hm
        obtain ⟨ba, bb, bc, bd, be, bf⟩ := bm
        refine onS_some rfl (onS_some rfl ?_)
        walk_at "st"
        refine onS_some rfl (onS_some rfl ?_)
        walk_at "st"
        have e : eqD (.int (if m.a * m.d - m.b * m.c < 0 then -(m.a * m.d - m.b * m.c) else m.a * m.d - m.b * m.c)) (.int 1) = decide (IsMv m) := by
          rw [eqD_int]
          have : ((if m.a * m.d - m.b * m.c < 0 then -(m.a * m.d - m.b * m.c) else m.a * m.d - m.b * m.c) == 1) = decide (m.a * m.d - m.b * m.c = 1 ∨ m.a * m.d - m.b * m.c = -1) := by
            rw [Bool.eq_iff_iff, beq_iff_eq, decide_eq_true_iff]
            split <;> omega
          rw [this]; rfl
        rw [← e] at k
        exact k
  | _ => exact ⟨rfl, k⟩
end Py
local macro_rules | `(tactic| walk_at "call") => `(tactic| refine Py.is_move_go ?_ ?_)
namespace Py
open PySem PySem.Spec PyProof.Rows L2 DL Mov
@[irreducible] def S_need_move : Fsp := fun ds κ ε => ∃ d, ds = [d] ∧ (∀ m, d = mv m → BM 20000 m) ∧ (moveB d = false → ε "NoMove") ∧ (moveB d = true → κ (.v .non))
theorem need_go {m : Mv} {κ : Rv → Prop} {ε : Str → Prop} (hm : IsMv m) (hb : BM 20000 m) (k : κ (.v .non)) : S_need_move [mv m] κ ε := by
  unfold S_need_move
  refine ⟨mv m, rfl, fun n h => ?_, fun h => ?_, fun _ => k⟩
  · have : n = m := by obtain ⟨_, _, _, _, _, _⟩ := n; obtain ⟨_, _, _, _, _, _⟩ := m; unfold mv at h; simp only [Dat.tup.injEq, List.cons.injEq, Dat.int.injEq] at h; simp only [Mv.mk.injEq]; obtain ⟨a, b, c, d, e, f, _⟩ := h; exact ⟨a.symm, b.symm, c.symm, d.symm, e.symm, f.symm⟩
    rw [this]; exact hb
  · rw [moveB_mv, decide_eq_true hm] at h; exact nomatch h
theorem need_no {d : Dat} {κ : Rv → Prop} {ε : Str → Prop} (h : moveB d = false) (hb : ∀ m, d = mv m → BM 20000 m) (k : ε "NoMove") : S_need_move [d] κ ε := by
  unfold S_need_move
  exact ⟨d, rfl, hb, fun _ => k, fun h2 => by rw [h] at h2; exact nomatch h2⟩
theorem sem_need_move : ∀ ds κ ε, S_need_move ds κ ε → d_need_move S_is_move (endsOf κ ε) (entry ms_need_move 1 ds) := by
  intro ds κ ε h
  unfold S_need_move at h
  obtain ⟨d, rfl, hb, h1, h2⟩ := h
  cases d <;> exact is_move_go hb (ifNot h1 h2)
end Py
namespace Py
open PySem PySem.Spec PyProof.Rows L2 DL Mov
@[irreducible] def S_moved : Fsp := fun ds κ ε => ∃ p d, ds = [pt p, d] ∧ BP 20000 p ∧ (∀ m, d = mv m → BM 20000 m) ∧ (moveB d = false → ε "NoMove") ∧ (∀ m, d = mv m → IsMv m → κ (.v (pt (act m p))))
theorem mv_inj {m n : Mv} (h : mv n = mv m) : n = m := by
  obtain ⟨_, _, _, _, _, _⟩ := n
  obtain ⟨_, _, _, _, _, _⟩ := m
  unfold mv at h
  simp only [Dat.tup.injEq, List.cons.injEq, Dat.int.injEq] at h
  simp only [Mv.mk.injEq]
  obtain ⟨a, b, c, d, e, f, _⟩ := h
  exact ⟨a, b, c, d, e, f⟩
theorem moved_go {m : Mv} {p : Pt} {κ : Rv → Prop} {ε : Str → Prop} (hm : IsMv m) (hp : BP 20000 p) (hb : BM 20000 m) (k : κ (.v (pt (act m p)))) : S_moved [pt p, mv m] κ ε := by
  unfold S_moved
  exact ⟨p, _, rfl, hp, fun n h => by rw [← mv_inj h]; exact hb, (fun h => by rw [moveB_mv, decide_eq_true hm] at h; exact (nomatch h)), fun n h _ => by rw [← mv_inj h]; exact k⟩
theorem moved_no {d : Dat} {p : Pt} {κ : Rv → Prop} {ε : Str → Prop} (h : moveB d = false) (hp : BP 20000 p) (hb : ∀ m, d = mv m → BM 20000 m) (k : ε "NoMove") : S_moved [pt p, d] κ ε := by
  unfold S_moved
  exact ⟨p, d, rfl, hp, hb, fun _ => k, fun m e hm => by rw [e, moveB_mv, decide_eq_true hm] at h; exact nomatch h⟩
theorem move_of {d : Dat} (h : moveB d = true) : ∃ m, d = mv m ∧ IsMv m := by
  unfold moveB at h
  rw [Bool.and_eq_true] at h
  obtain ⟨m, rfl⟩ := six_of h.1
  have h2 := moveB_mv m
  unfold moveB at h2
  rw [h.1, h.2] at h2
  exact ⟨m, rfl, of_decide_eq_true h2.symm⟩
theorem sem_moved : ∀ ds κ ε, S_moved ds κ ε → d_moved S_need_move (endsOf κ ε) (entry ms_moved 8 ds) := by
  intro ds κ ε h
  unfold S_moved at h
  obtain ⟨p, d, rfl, hp, hb, h1, h2⟩ := h
  by_cases hm : moveB d = true
  · obtain ⟨m, rfl, im⟩ := move_of hm
    have bm := hb m rfl
    have k := h2 m rfl im
    obtain ⟨ba, bb, bc, bd, be, bf⟩ := bm
    have bx := hp.x
    have by' := hp.y
    refine need_go im (hb m rfl) ?_
    refine ⟨rfl, ?_⟩
    refine onS_some rfl ?_
    walk_at "st"
    refine onS_some rfl ?_
    walk_at "st"
    refine onS_some rfl ?_
    walk_at "st"
    refine onS_some rfl ?_
    walk_at "st"
    exact k
  · have hm : moveB d = false := by cases h : moveB d <;> simp_all
    cases d <;> exact need_no hm hb (h1 hm)
end Py
namespace Py
open PySem PySem.Spec PyProof.Rows L2 DL Hull
@[irreducible] def S_turn : Fsp := fun ds κ _ => ∃ P Q R : Pt, ds = [pt P, pt Q, pt R] ∧ BP 100000 P ∧ BP 100000 Q ∧ BP 100000 R ∧ κ (.v (.int (turn P Q R)))
theorem turn_go {P Q R : Pt} {κ : Rv → Prop} {ε : Str → Prop} (hP : BP 100000 P) (hQ : BP 100000 Q) (hR : BP 100000 R) (k : κ (.v (.int (turn P Q R)))) : S_turn [pt P, pt Q, pt R] κ ε := by
  unfold S_turn; exact ⟨P, Q, R, rfl, hP, hQ, hR, k⟩
theorem sem_turn : ∀ ds κ ε, S_turn ds κ ε → d_turn (endsOf κ ε) (entry ms_turn 5 ds) := by
  intro ds κ ε h
  unfold S_turn at h
  obtain ⟨P, Q, R, rfl, hP, hQ, hR, k⟩ := h
  unfold turn at k
  refine onS_some rfl (onS_some rfl (onS_some rfl (onS_some rfl ⟨mulok (hQ.x.sub hP.x) (hR.y.sub hP.y) rfl, ?_⟩)))
  refine onS_some rfl (onS_some rfl (onS_some rfl (onS_some rfl ⟨mulok (hQ.y.sub hP.y) (hR.x.sub hP.x) rfl, ?_⟩)))
  refine ifd (fun h => ?_) (fun h => ?_)
  · rw [if_pos h] at k
    exact ⟨rfl, k⟩
  · rw [if_neg h] at k
    refine ifd (fun h2 => ?_) (fun h2 => ?_)
    · rw [if_pos h2] at k
      exact ⟨rfl, k⟩
    · rw [if_neg h2] at k
      exact ⟨rfl, k⟩
end Py
namespace Py
open PySem PySem.Spec PyProof.Rows L2 DL Hull
inductive S_half_round : List Dat → (Rv → Prop) → (Str → Prop) → Prop
  | mk {κ : Rv → Prop} {ε : Str → Prop} (ps : List Pt) (hl : ps.length ≤ 50000) (hb : ∀ p ∈ ps, BP 100000 p) (k : κ (.n ((half ps).map pt))) : S_half_round [.lst (ps.map pt)] κ ε
theorem half_round_go {ds : List Dat} {κ : Rv → Prop} {ε : Str → Prop} (ps : List Pt) (e : ds = ps.map pt) (hl : ps.length ≤ 50000) (hb : ∀ p ∈ ps, BP 100000 p) (k : κ (.n ((half ps).map pt))) : S_half_round [.lst ds] κ ε := by rw [e]; exact .mk ps hl hb k
theorem sem_half_round : ∀ ds κ ε, S_half_round ds κ ε → d_half_round S_turn (endsOf κ ε) (entry ms_half_round 3 ds) := by
  intro ds κ ε h
  obtain ⟨ps, hl, hb, k⟩ := h
  refine ⟨rfl, ?_⟩
  refine ⟨rfl, ?_⟩
  refine for_map (f := pt) (xs := ps) (fun i ρ => ∃ s2, ρ = [.br (ps.map pt), .ow ((stk (ps.take i)).reverse.map pt), s2] ∧ (∀ p ∈ stk (ps.take i), BP 100000 p) ∧ (stk (ps.take i)).length ≤ i) ⟨_, rfl, fun p hp => absurd hp (by simp [stk]), Nat.le_refl _⟩ (fun i p ρ N hp h hN => ?_) (fun ρ h => ?_)
  · obtain ⟨s2, rfl, hs, hsl⟩ := h
    have hi : i < ps.length := by
      by_cases z : i < ps.length
      · exact z
      · rw [List.getElem?_eq_none (by omega)] at hp; exact nomatch hp
    have bp := hb p (List.mem_of_getElem? hp)
    have ht := stk_take hp
    rw [ht] at hN
    generalize stk (ps.take i) = s at *
    refine while_ind (fun n ρ => ∃ r : List Pt, ρ = [.br (ps.map pt), .ow (r.reverse.map pt), .fz (pt p)] ∧ n = r.length ∧ popd r p = popd s p ∧ (∀ q ∈ r, BP 100000 q) ∧ r.length ≤ i) s.length ⟨s, rfl, rfl, rfl, hs, hsl⟩ ?_
    rintro n _ R ⟨r, rfl, rfl, e, hr, hrl⟩ hR
    have fin : ∀ r : List Pt, popd r p = r → popd r p = popd s p → (∀ q ∈ r, BP 100000 q) → r.length ≤ i → (sApp 1 (dVar 2)) { (endsOf κ ε) with nx := N, ct := N, bk := t_half_round_2 S_turn (endsOf κ ε) } [.br (ps.map pt), .ow (r.reverse.map pt), .fz (pt p)] := by
      intro r e1 e2 hr hrl
      refine ⟨szm (by rw [List.length_reverse]; omega), ?_⟩
      have ee : push s p = p :: r := by unfold push; rw [← e2, e1]
      refine hN _ ⟨.fz (pt p), ?_, ?_, ?_⟩
      · rw [ee, ← push_rest]; rfl
      · rw [ee]; intro q hq
        rcases List.mem_cons.mp hq with rfl | hq
        · exact bp
        · exact hr q hq
      · rw [ee, List.length_cons]; omega
    match r, e, hr, hrl, hR with
    | [], e, hr, hrl, hR => exact fin [] rfl e hr hrl
    | [a], e, hr, hrl, hR => exact fin [a] rfl e hr hrl
    | b :: a :: r, e, hr, hrl, hR =>
      refine ifd (fun _ => ?_) fun h => absurd (show ((((b :: a :: r).reverse.map pt).length : Nat) : Int) > 1 by simp; omega) h
      refine onS_some at_next ?_
      refine onS_some at_top ?_
      refine turn_go (hr a (by simp)) (hr b (by simp)) bp ?_
      refine ifd (fun h => ?_) fun h => ?_
      · have hsp : span a b p ≤ 0 := turn_le.mp (by omega)
        refine onS_some pop_at ?_
        refine hR (a :: r).length _ (by simp) ⟨a :: r, by show [_, Sl.ow ((((b :: a :: r).reverse.map pt)).dropLast), _] = _; rw [pop_rest], rfl, ?_, fun q hq => hr q (by simp [hq]), by simp only [List.length_cons] at *; omega⟩
        rw [← e]
        conv => rhs; unfold popd
        rw [if_pos hsp]
      · have hsp : ¬ span a b p ≤ 0 := fun z => h (by have := turn_le.mpr z; omega)
        refine fin _ ?_ e hr hrl
        unfold popd; rw [if_neg hsp]
  · obtain ⟨s2, rfl, hs, hsl⟩ := h
    rw [List.take_length]
    exact k
end Py
namespace Py
open PySem PySem.Spec PyProof.Rows L2 DL Hull
inductive S_field : List Dat → (Rv → Prop) → (Str → Prop) → Prop
  | mk {κ : Rv → Prop} {ε : Str → Prop} (ps : List Pt) (h0 : ps ≠ []) (hl : ps.length < 64) (hb : ∀ p ∈ ps, BP 100000 p) (k : κ (.n ((hull ps).map pt))) : S_field [.lst (ps.map pt)] κ ε
  | no {κ : Rv → Prop} {ε : Str → Prop} (k : ε "NoField") : S_field [.lst []] κ ε
theorem field_go {ds : List Dat} {κ : Rv → Prop} {ε : Str → Prop} (ps : List Pt) (e : ds = ps.map pt) (h0 : ps ≠ []) (hl : ps.length < 64) (hb : ∀ p ∈ ps, BP 100000 p) (k : κ (.n ((hull ps).map pt))) : S_field [.lst ds] κ ε := by rw [e]; exact .mk ps h0 hl hb k
theorem sem_field : ∀ ds κ ε, S_field ds κ ε → d_field S_half_round (endsOf κ ε) (entry ms_field 2 ds) := by
  intro ds κ ε h
  cases h with
  | no k =>
    refine ⟨⟨rfl, rfl⟩, ?_⟩
    exact k
  | mk ps h0 hl hb k =>
    refine ⟨⟨rfl, rfl⟩, ifEq (fun h => absurd (List.length_eq_zero_iff.mp (by have h : ((ps.map pt).length : Int) = 0 := h; rw [List.length_map] at h; omega)) h0) fun _ => ?_⟩
    refine onS_some (ptsD_map ps) ⟨hl, fun L hp hm => ?_⟩
    have eL := srt_uniq hp hm
    subst eL
    have hs : ∀ x ∈ srt ps, BP 100000 x := fun x hx => hb x ((mem_srt ps x).mp hx)
    have hsl := srt_len ps
    refine ⟨⟨rfl, rfl⟩, ifEq (fun h => ?_) fun h => ?_⟩
    · have h : (srt ps).length = 1 := by have h : (((srt ps).map pt).length : Int) = 1 := h; rw [List.length_map] at h; omega
      unfold hull at k
      rw [if_pos h] at k
      exact k
    · have h : ¬ (srt ps).length = 1 := fun z => h (by show (((srt ps).map pt).length : Int) = 1; rw [List.length_map, z]; rfl)
      unfold hull at k
      rw [if_neg h] at k
      refine .mk (srt ps) (by omega) hs ?_
      refine half_round_go (srt ps).reverse (List.map_reverse ..).symm (by rw [List.length_reverse]; omega) (fun x hx => hs x (List.mem_reverse.mp hx)) ?_
      have h1 := (half_all hs).2
      have h2 := (half_all (P := BP 100000) (ps := (srt ps).reverse) fun x hx => hs x (List.mem_reverse.mp hx)).2
      rw [List.length_reverse] at h2
      show (DL.cutD ((half (srt ps)).map pt) none (some (-1))).length + (DL.cutD ((half (srt ps).reverse).map pt) none (some (-1))).length ≤ sizeLine ∧ true = true ∧ κ (.n (DL.cutD ((half (srt ps)).map pt) none (some (-1)) ++ DL.cutD ((half (srt ps).reverse).map pt) none (some (-1))))
      rw [cut_last, cut_last, ← List.map_append]
      refine ⟨Nat.le_of_lt (sz_ok ?_), rfl, k⟩
      rw [List.length_map, List.length_map, List.length_dropLast, List.length_dropLast]
      omega
end Py
namespace Py
open PySem PySem.Spec PyProof.Rows L2 DL
def cQ (ns : List Int) (k : Int) : Int := if k < ns.length then ns.getD k.toNat 0 else 7 * k * k + 3 * k + 1
theorem cQ_bt {ns : List Int} (hs : Scr ns) {k : Int} (h0 : 0 ≤ k) (h1 : k < 1000) : Bt 1048577 (cQ ns k) := by
  unfold cQ
  split
  · rename_i h
    rw [List.getD_eq_getElem?_getD, List.getElem?_eq_getElem (by omega)]
    exact hs.bt _ (List.getElem_mem (by omega))
  · have b : Bt 10 k := by rw [Bt.def]; omega
    have c : Bt 3 7 := Bt.lit (by decide)
    have d : Bt 2 3 := Bt.lit (by decide)
    have e : Bt 1 1 := Bt.lit (by decide)
    exact ((((c.mul b).mul b).add (d.mul b)).add e).mono (by decide)
inductive S_L_cell : List Dat → (Rv → Prop) → (Str → Prop) → Prop
  | mk {κ : Rv → Prop} {ε : Str → Prop} (ns : List Int) (k : Int) (hs : Scr ns) (h0 : 0 ≤ k) (h1 : k < 1000) (q : κ (.v (.int (cQ ns k)))) : S_L_cell [.lst (ns.map Dat.int), .int k] κ ε
theorem sem_L_cell : ∀ ds κ ε, S_L_cell ds κ ε → d_L_cell (endsOf κ ε) (entry ms_L_cell 2 ds) := by
  intro ds κ ε h
  obtain ⟨ns, k, hs, h0, h1, q⟩ := h
  unfold cQ at q
  refine ifd (fun hl => ?_) (fun hl => ?_)
  · have hl : k < ns.length := by rw [List.length_map] at hl; omega
    rw [if_pos hl, List.getD_eq_getElem?_getD, List.getElem?_eq_getElem (by omega)] at q
    exact onS_some (at_mapI (j := k.toNat) (by omega) (List.getElem?_eq_getElem (by omega))) ⟨rfl, q⟩
  · have hl : ¬ k < ns.length := by rw [List.length_map] at hl; omega
    rw [if_neg hl] at q
    have b : Bt 10 k := by rw [Bt.def]; omega
    refine ⟨mulok (Bt.lit (k := 3) (by decide)) b rfl, mulok ((Bt.lit (k := 3) (i := 7) (by decide)).mul b) b rfl, mulok (Bt.lit (k := 2) (by decide)) b rfl, ?_⟩
    exact ⟨rfl, q⟩
end Py
namespace Py
open PySem PySem.Spec PyProof.Rows L2 DL Hull
inductive S_L_side : List Dat → (Rv → Prop) → (Str → Prop) → Prop
  | mk {κ : Rv → Prop} {ε : Str → Prop} (a b p : Pt) (ha : BP 100000 a) (hb : BP 100000 b) (hp : BP 100000 p) (k : κ (.v (.int (span a b p)))) : S_L_side [pt a, pt b, pt p] κ ε
theorem sem_L_side : ∀ ds κ ε, S_L_side ds κ ε → d_L_side (endsOf κ ε) (entry ms_L_side 3 ds) := by
  intro ds κ ε h
  obtain ⟨a, b, p, ha, hb, hp, k⟩ := h
  refine onS_some rfl (onS_some rfl (onS_some rfl (onS_some rfl ⟨mulok (hb.x.sub ha.x) (hp.y.sub ha.y) rfl, ?_⟩)))
  refine onS_some rfl (onS_some rfl (onS_some rfl (onS_some rfl ⟨mulok (hb.y.sub ha.y) (hp.x.sub ha.x) rfl, ?_⟩)))
  exact ⟨rfl, k⟩
end Py
namespace Py
open PySem PySem.Spec PyProof.Rows L2 DL Hull
inductive S_L_half : List Dat → (Rv → Prop) → (Str → Prop) → Prop
  | mk {κ : Rv → Prop} {ε : Str → Prop} (ps : List Pt) (hl : ps.length ≤ 50000) (hb : ∀ p ∈ ps, BP 100000 p) (k : κ (.n ((half ps).map pt))) : S_L_half [.lst (ps.map pt)] κ ε
theorem L_half_go {ds : List Dat} {κ : Rv → Prop} {ε : Str → Prop} (ps : List Pt) (e : ds = ps.map pt) (hl : ps.length ≤ 50000) (hb : ∀ p ∈ ps, BP 100000 p) (k : κ (.n ((half ps).map pt))) : S_L_half [.lst ds] κ ε := by rw [e]; exact .mk ps hl hb k
theorem sem_L_half : ∀ ds κ ε, S_L_half ds κ ε → d_L_half S_L_side (endsOf κ ε) (entry ms_L_half 3 ds) := by
  intro ds κ ε h
  obtain ⟨ps, hl, hb, k⟩ := h
  refine ⟨rfl, ?_⟩
  refine ⟨rfl, ?_⟩
  refine for_map (f := pt) (xs := ps) (fun i ρ => ∃ s2, ρ = [.br (ps.map pt), .ow ((stk (ps.take i)).reverse.map pt), s2] ∧ (∀ p ∈ stk (ps.take i), BP 100000 p) ∧ (stk (ps.take i)).length ≤ i) ⟨_, rfl, fun p hp => absurd hp (by simp [stk]), Nat.le_refl _⟩ (fun i p ρ N hp h hN => ?_) (fun ρ h => ?_)
  · obtain ⟨s2, rfl, hs, hsl⟩ := h
    have hi : i < ps.length := by
      by_cases z : i < ps.length
      · exact z
      · rw [List.getElem?_eq_none (by omega)] at hp; exact nomatch hp
    have bp := hb p (List.mem_of_getElem? hp)
    have ht := stk_take hp
    rw [ht] at hN
    generalize stk (ps.take i) = s at *
    refine while_ind (fun n ρ => ∃ r : List Pt, ρ = [.br (ps.map pt), .ow (r.reverse.map pt), .fz (pt p)] ∧ n = r.length ∧ popd r p = popd s p ∧ (∀ q ∈ r, BP 100000 q) ∧ r.length ≤ i) s.length ⟨s, rfl, rfl, rfl, hs, hsl⟩ ?_
    rintro n _ R ⟨r, rfl, rfl, e, hr, hrl⟩ hR
    have fin : ∀ r : List Pt, popd r p = r → popd r p = popd s p → (∀ q ∈ r, BP 100000 q) → r.length ≤ i → (sApp 1 (dVar 2)) { (endsOf κ ε) with nx := N, ct := N, bk := t_L_half_2 S_L_side (endsOf κ ε) } [.br (ps.map pt), .ow (r.reverse.map pt), .fz (pt p)] := by
      intro r e1 e2 hr hrl
      refine ⟨szm (by rw [List.length_reverse]; omega), ?_⟩
      have ee : push s p = p :: r := by unfold push; rw [← e2, e1]
      refine hN _ ⟨.fz (pt p), ?_, ?_, ?_⟩
      · rw [ee, ← push_rest]; rfl
      · rw [ee]; intro q hq
        rcases List.mem_cons.mp hq with rfl | hq
        · exact bp
        · exact hr q hq
      · rw [ee, List.length_cons]; omega
    match r, e, hr, hrl, hR with
    | [], e, hr, hrl, hR => exact fin [] rfl e hr hrl
    | [a], e, hr, hrl, hR => exact fin [a] rfl e hr hrl
    | b :: a :: r, e, hr, hrl, hR =>
      refine ifd (fun _ => ?_) fun h => absurd (show ((((b :: a :: r).reverse.map pt).length : Nat) : Int) > 1 by simp; omega) h
      refine onS_some at_next ?_
      refine onS_some at_top ?_
      refine .mk a b p (hr a (by simp)) (hr b (by simp)) bp ?_
      refine ifd (fun h => ?_) fun h => ?_
      · have hsp : span a b p ≤ 0 := h
        refine onS_some pop_at ?_
        refine hR (a :: r).length _ (by simp) ⟨a :: r, by show [_, Sl.ow ((((b :: a :: r).reverse.map pt)).dropLast), _] = _; rw [pop_rest], rfl, ?_, fun q hq => hr q (by simp [hq]), by simp only [List.length_cons] at *; omega⟩
        rw [← e]
        conv => rhs; unfold popd
        rw [if_pos hsp]
      · have hsp : ¬ span a b p ≤ 0 := h
        refine fin _ ?_ e hr hrl
        unfold popd; rw [if_neg hsp]
  · obtain ⟨s2, rfl, hs, hsl⟩ := h
    rw [List.take_length]
    exact k
end Py
namespace Py
open PySem PySem.Spec PyProof.Rows L2 DL Hull
inductive S_L_corners : List Dat → (Rv → Prop) → (Str → Prop) → Prop
  | mk {κ : Rv → Prop} {ε : Str → Prop} (ps : List Pt) (hl : ps.length < 64) (hb : ∀ p ∈ ps, BP 100000 p) (k : κ (.n ((hull ps).map pt))) : S_L_corners [.lst (ps.map pt)] κ ε
theorem L_corners_go {ds : List Dat} {κ : Rv → Prop} {ε : Str → Prop} (ps : List Pt) (e : ds = ps.map pt) (hl : ps.length < 64) (hb : ∀ p ∈ ps, BP 100000 p) (k : κ (.n ((hull ps).map pt))) : S_L_corners [.lst ds] κ ε := by rw [e]; exact .mk ps hl hb k
theorem sem_L_corners : ∀ ds κ ε, S_L_corners ds κ ε → d_L_corners S_L_half (endsOf κ ε) (entry ms_L_corners 2 ds) := by
  intro ds κ ε h
  obtain ⟨ps, hl, hb, k⟩ := h
  refine onS_some (ptsD_map ps) ⟨hl, fun L hp hm => ?_⟩
  have eL := srt_uniq hp hm
  subst eL
  have hs : ∀ x ∈ srt ps, BP 100000 x := fun x hx => hb x ((mem_srt ps x).mp hx)
  have hsl := srt_len ps
  refine ifd (fun h => ?_) fun h => ?_
  · have h : (srt ps).length < 2 := by have h : (((srt ps).map pt).length : Int) < 2 := h; rw [List.length_map] at h; omega
    have e : hull ps = srt ps := by
      unfold hull
      match srt ps, h with
      | [], _ => rfl
      | [a], _ => rfl
    rw [e] at k
    exact k
  · have h : ¬ (srt ps).length = 1 := fun z => h (by show (((srt ps).map pt).length : Int) < 2; rw [List.length_map, z]; decide)
    unfold hull at k
    rw [if_neg h] at k
    refine .mk (srt ps) (by omega) hs ?_
    refine L_half_go (srt ps).reverse (List.map_reverse ..).symm (by rw [List.length_reverse]; omega) (fun x hx => hs x (List.mem_reverse.mp hx)) ?_
    have h1 := (half_all hs).2
    have h2 := (half_all (P := BP 100000) (ps := (srt ps).reverse) fun x hx => hs x (List.mem_reverse.mp hx)).2
    rw [List.length_reverse] at h2
    show (DL.cutD ((half (srt ps)).map pt) none (some (-1))).length + (DL.cutD ((half (srt ps).reverse).map pt) none (some (-1))).length ≤ sizeLine ∧ true = true ∧ κ (.n (DL.cutD ((half (srt ps)).map pt) none (some (-1)) ++ DL.cutD ((half (srt ps).reverse).map pt) none (some (-1))))
    rw [cut_last, cut_last, ← List.map_append]
    refine ⟨Nat.le_of_lt (sz_ok ?_), rfl, k⟩
    rw [List.length_map, List.length_map, List.length_dropLast, List.length_dropLast]
    omega
end Py
namespace Py
open PySem PySem.Spec PyProof.Rows L2 DL
inductive S_L_great : List Dat → (Rv → Prop) → (Str → Prop) → Prop
  | mk {κ : Rv → Prop} {ε : Str → Prop} (c m : Int) (j : Nat) (hj : j ≤ 300) (hc : Bt 1100000 c) (hm : 0 < m) (bm : Bt j m) (k : ∀ z, Bt (j + 2) z → κ (.v (.int z))) : S_L_great [.int c, .int m] κ ε
theorem sem_L_great : ∀ ds κ ε, S_L_great ds κ ε → d_L_great (endsOf κ ε) (entry ms_L_great 2 ds) := by
  intro ds κ ε h
  obtain ⟨c, m, j, hj, hc, hm, bm', k⟩ := h
  have bm := bm'.mono hj
  have b37 : Bt 6 37 := Bt.lit (by decide +kernel)
  have b2 : Bt 2 2 := Bt.lit (by decide +kernel)
  have bw : Bt 400 (37 * m / 10 + 60013) := ((b37.mul bm).ediv.add (Bt.lit (k := 17) (by decide +kernel))).mono (by decide)
  have b3 : Bt (j + 1) (c * (37 * m / 10 + 60013) % (2 * m + 1)) := Bt.emodm (by omega) (by rw [Bt.def] at bm' ⊢; have e2 : 2 ^ (j + 1) = 2 * 2 ^ j := (by rw [Nat.pow_succ, Nat.mul_comm]); omega)
  exact ⟨mulok b37 bm (by decide), by walk_at "side", mulok hc bw (by decide), mulok b2 bm (by decide), (by omega : 0 < 2 * m + 1), rfl, k _ ((b3.sub bm').mono (by omega))⟩
theorem great_go (j : Nat) {c m : Int} {κ : Rv → Prop} {ε : Str → Prop} (hc : Bt 1100000 c) (hm : decide (0 < m ∧ m.natAbs < 2 ^ j ∧ j ≤ 300) = true) (q : ∀ z, Bt (j + 2) z → κ (.v (.int z))) : S_L_great [.int c, .int m] κ ε := by
  have hm := of_decide_eq_true hm
  exact .mk c m j hm.2.2 hc hm.1 (by rw [Bt.def]; exact hm.2.1) q
end Py
-- plain: DLzi DLzj PNum PEq PMov PTurn PHull PGeo PGeo2 PGeo3
namespace Py
open PySem PySem.Spec PyProof.Rows L2 DL Mov Hull
theorem hull_one (p : Pt) : hull [p] = [p] := rfl
inductive S_is_field : List Dat → (Rv → Prop) → (Str → Prop) → Prop
  | mk {κ : Rv → Prop} {ε : Str → Prop} (ps : List Pt) (h0 : ps ≠ []) (hl : ps.length < 64) (hb : ∀ p ∈ ps, BP 100000 p) (k : κ (.v (.bl (decide (hull ps = ps))))) : S_is_field [.lst (ps.map pt)] κ ε
  | no {κ : Rv → Prop} {ε : Str → Prop} (k : κ (.v (.bl false))) : S_is_field [.lst []] κ ε
theorem sem_is_field : ∀ ds κ ε, S_is_field ds κ ε → d_is_field S_field (endsOf κ ε) (entry ms_is_field 1 ds) := by
  intro ds κ ε h
  cases h with
  | no k => exact ⟨⟨rfl, rfl⟩, rfl, k⟩
  | mk ps h0 hl hb k =>
    refine ⟨⟨rfl, rfl⟩, ifEq (fun h => absurd (List.length_eq_zero_iff.mp (by have h : ((ps.map pt).length : Int) = 0 := h; rw [List.length_map] at h; omega)) h0) fun _ => ?_⟩
    refine .mk ps h0 hl hb ?_
    refine ⟨⟨shp_pts _ _, shp_pts _ _⟩, rfl, ?_⟩
    show κ (.v (.bl (eqD (.lst ((hull ps).map pt)) (.lst (ps.map pt)))))
    rw [eqD_pts]
    exact k
inductive S_field_moved : List Dat → (Rv → Prop) → (Str → Prop) → Prop
  | mk {κ : Rv → Prop} {ε : Str → Prop} (ps : List Pt) (m : Mv) (h0 : ps ≠ []) (hl : ps.length < 64) (hb : ∀ p ∈ ps, BP 20000 p) (im : IsMv m) (bm : BM 20000 m) (k : κ (.n ((hull (ps.map (act m))).map pt))) : S_field_moved [.lst (ps.map pt), mv m] κ ε
  | no {κ : Rv → Prop} {ε : Str → Prop} (ps : List Pt) (d : Dat) (h0 : ps ≠ []) (hb : ∀ p ∈ ps, BP 20000 p) (hm : moveB d = false) (bm : ∀ m, d = mv m → BM 20000 m) (k : ε "NoMove") : S_field_moved [.lst (ps.map pt), d] κ ε
theorem sem_field_moved : ∀ ds κ ε, S_field_moved ds κ ε → d_field_moved S_field S_moved (endsOf κ ε) (entry ms_field_moved 3 ds) := by
  intro ds κ ε h
  cases h with
  | mk ps m h0 hl hb im bm k =>
    refine ⟨rfl, ?_⟩
    refine lcX_map (xs := ps) (f := pt) (h := fun p => pt (act m p)) (by omega) (fun i p N hx hN => ?_) ?_
    · exact moved_go im (hb p (List.mem_of_getElem? hx)) bm hN
    · refine field_go (ps.map (act m)) (by rw [List.map_map]; rfl) (by simpa using h0) (by rw [List.length_map]; exact hl) (fun q hq => ?_) ⟨rfl, k⟩
      obtain ⟨p, hp, rfl⟩ := List.mem_map.mp hq
      exact (act_bp bm (hb p hp)).mono (by decide)
  | no ps d h0 hb hm bm k =>
    obtain ⟨p, qs, rfl⟩ : ∃ p qs, ps = p :: qs := by
      cases ps with
      | nil => exact absurd rfl h0
      | cons p qs => exact ⟨p, qs, rfl⟩
    have hp := hb p (by simp)
    cases d <;> exact ⟨rfl, moved_no hm hp bm k⟩
inductive S_L_land : List Dat → (Rv → Prop) → (Str → Prop) → Prop
  | mk {κ : Rv → Prop} {ε : Str → Prop} (ns : List Int) (hs : Scr ns) (k : ∀ ps : List Pt, ps ≠ [] → ps.length ≤ 60 → (∀ p ∈ ps, BP 150 p) → κ (.n (ps.map pt))) : S_L_land [.lst (ns.map Dat.int)] κ ε
theorem sem_L_land : ∀ ds κ ε, S_L_land ds κ ε → d_L_land S_L_cell S_L_great (endsOf κ ε) (entry ms_L_land 6 ds) := by
  intro ds κ ε h
  obtain ⟨ns, hs, k⟩ := h
  show d_L_land _ _ _ [.br (ns.map Dat.int), .un, .un, .un, .un, .un]
  have hl := hs.len'
  refine ⟨rfl, ?_⟩
  walk_at "nz"
  refine ⟨by walk_at "ite", ?_⟩
  have hn : ∀ M : Int, 4 ≤ M → M ≤ 62 → 1 ≤ (M - 3).toNat ∧ (M - 3).toNat ≤ 59 := fun M h h' => by omega
  have hM := hn (if (if (62 : Int) < ((ns.map Dat.int).length : Int) then (62 : Int) else ((ns.map Dat.int).length : Int)) > 4 then (if (62 : Int) < ((ns.map Dat.int).length : Int) then (62 : Int) else ((ns.map Dat.int).length : Int)) else 4) (by walk_at "ite") (by walk_at "ite")
  generalize ((if (if (62 : Int) < ((ns.map Dat.int).length : Int) then (62 : Int) else ((ns.map Dat.int).length : Int)) > 4 then (if (62 : Int) < ((ns.map Dat.int).length : Int) then (62 : Int) else ((ns.map Dat.int).length : Int)) else 4) - 3).toNat = n at *
  refine for_rng (lo := 3) (fun i ρ => ∃ (ps : List Pt) (ds : List Dat) (s3 s4 s5 s2 : Sl), ρ = [.br (ns.map Dat.int), .ow ds, s2, s3, s4, s5] ∧ ds = ps.map pt ∧ ps.length = i ∧ ∀ p ∈ ps, BP 150 p) ⟨[], _, _, _, _, _, rfl, rfl, rfl, by simp⟩ (fun i ρ N hi h hN => ?_) (fun ρ h => ?_)
  · obtain ⟨ps, ds, s3, s4, s5, s2, rfl, rfl, hp, hb⟩ := h
    have bz := cQ_bt hs (k := 3 + (i : Int)) (by omega) (by omega)
    have b0 := cQ_bt hs (k := 0) (by decide) (by decide)
    refine .mk ns (3 + (i : Int)) hs (by omega) (by omega) ?_
    generalize cQ ns (3 + (i : Int)) = z at *
    walk_at "nz"
    have go : ∀ x y : Int, Bt 150 x → Bt 150 y → (ps.map pt).length < sizeLine ∧ N [.br (ns.map Dat.int), .ow (ps.map pt ++ [.tup [.int x, .int y]]), .fz (.int (3 + (i : Int))), .fz (.int z), .fz (.int x), .fz (.int y)] := by
      intro x y hx hy
      exact ⟨szm (by omega), hN _ ⟨ps ++ [(x, y)], _, _, _, _, _, rfl, map_snoc pt ps (x, y), by rw [List.length_append, hp]; rfl, all_snoc hb ⟨hx, hy⟩⟩⟩
    refine ⟨by walk_at "side", ?_⟩
    walk_at "nz"
    refine ⟨by walk_at "side", by walk_at "side", ?_⟩
    walk_at "nz"
    refine .mk ns 0 hs (by decide) (by decide) ?_
    refine ⟨by walk_at "side", ⟨rfl, rfl⟩, ifEq (fun _ => ?_) fun _ => ?_⟩
    · refine ⟨by walk_at "side", ?_⟩
      refine great_go 135 (bz.mono (by decide)) (by decide +kernel) fun x hx => ?_
      walk_at "nz"
      refine ⟨by walk_at "side", by walk_at "side", ?_⟩
      refine great_go 135 (bz.ediv.mono (by decide)) (by decide +kernel) fun y hy => ?_
      exact ⟨rfl, go x y (hx.mono (by decide)) (hy.mono (by decide))⟩
    · exact ⟨rfl, go _ _ (by walk_at "btl") (by walk_at "btl")⟩
  · obtain ⟨ps, ds, s3, s4, s5, s2, rfl, rfl, hp, hb⟩ := h
    exact k ps (fun e => by subst e; simp at hp; omega) (by omega) hb
structure NoMv (d : Dat) : Prop where
  no : moveB d = false
  bm : ∀ m, d = mv m → BM 20000 m
theorem noMv_mv {m : Mv} (h : ¬ IsMv m) (b : BM 20000 m) : NoMv (mv m) := ⟨by rw [moveB_mv]; exact decide_eq_false h, fun n e => by rw [← mv_inj e]; exact b⟩
inductive S_L_moves : List Dat → (Rv → Prop) → (Str → Prop) → Prop
  | mk {κ : Rv → Prop} {ε : Str → Prop} (ns : List Int) (hs : Scr ns) (k : ∀ (g : Mv) (T : List Dat), IsMv g → g.a = 1 → BM 300 g → T.length ≤ 20 → (∀ d ∈ T, NoMv d) → κ (.n (mv g :: T))) : S_L_moves [.lst (ns.map Dat.int)] κ ε
theorem sem_L_moves : ∀ ds κ ε, S_L_moves ds κ ε → d_L_moves S_L_great S_L_cell (endsOf κ ε) (entry ms_L_moves 8 ds) := by
  intro ds κ ε h
  obtain ⟨ns, hs, k⟩ := h
  have b0 := cQ_bt hs (k := 0) (by decide) (by decide)
  have b1 := cQ_bt hs (k := 1) (by decide) (by decide)
  have b2 := cQ_bt hs (k := 2) (by decide) (by decide)
  show d_L_moves _ _ _ [.br (ns.map Dat.int), .un, .un, .un, .un, .un, .un, .un]
  refine .mk ns 0 hs (by decide) (by decide) ?_
  refine ⟨by walk_at "side", by walk_at "side", ?_⟩
  refine great_go 70 (b0.ediv.mono (by decide)) (by decide +kernel) fun m hm => ?_
  walk_at "nz"
  refine .mk ns 1 hs (by decide) (by decide) ?_
  refine ⟨by walk_at "side", ?_⟩
  have hn : Bt 10 (cQ ns 1 % 7 - 3) := by walk_at "btl"
  obtain ⟨n, en⟩ : ∃ n, cQ ns 1 % 7 - 3 = n := ⟨_, rfl⟩
  rw [en] at hn
  show t_L_moves_2 S_L_great S_L_cell (endsOf κ ε) [.br (ns.map Dat.int), .fz (.int m), .fz (.int (cQ ns 1 % 7 - 3)), .un, .un, .un, .un, .un]
  rw [en]
  refine .mk ns 1 hs (by decide) (by decide) ?_
  refine ⟨by walk_at "side", by walk_at "side", ?_⟩
  refine great_go 135 (b1.ediv.mono (by decide)) (by decide +kernel) fun e he => ?_
  walk_at "nz"
  refine .mk ns 2 hs (by decide) (by decide) ?_
  refine ⟨by walk_at "side", by walk_at "side", ?_⟩
  walk_at "nz"
  refine .mk ns 2 hs (by decide) (by decide) ?_
  refine ⟨by walk_at "side", by walk_at "side", ?_⟩
  have bf : Bt 140 (cQ ns 2 % 10 ^ 40) := by rw [Bt.def]; omega
  have bo : 1 ≤ 1 + cQ ns 2 % 10 ^ 20 ∧ Bt 100 (1 + cQ ns 2 % 10 ^ 20) := ⟨by omega, by rw [Bt.def]; omega⟩
  show t_L_moves_5 S_L_great S_L_cell (endsOf κ ε) [.br (ns.map Dat.int), .fz (.int m), .fz (.int n), .fz (.int e), .fz (.int (cQ ns 2 % 10 ^ 40)), .fz (.int (1 + cQ ns 2 % 10 ^ 20)), .un, .un]
  generalize cQ ns 2 % 10 ^ 40 = f at *
  generalize 1 + cQ ns 2 % 10 ^ 20 = o at *
  obtain ⟨o1, bo⟩ := bo
  have bmn := hm.mul hn
  have mok : MulOk m n := mulok hm hn (by decide)
  have one : Bt 1 1 := Bt.lit (by decide)
  refine ⟨mok, rfl, ?_⟩
  walk_at "nz"
  refine ⟨mok, rfl, mok, rfl, rfl, rfl, rfl, ?_⟩
  walk_at "nz"
  refine ⟨mok, rfl, sz_ok (by simp), ?_⟩
  walk_at "nz"
  have le : ∀ a b : Nat, a ≤ 1000 → b ≤ 1000 → a + b ≤ sizeLine := fun a b h1 h2 => Nat.le_of_lt (sz_ok (by omega))
  refine ⟨rfl, le _ _ (by simp) (by simp), mok, rfl, mok, rfl, rfl, rfl, le _ _ (by simp) (by simp), rfl, ?_⟩
  have det : ∀ x : Int, IsMv ⟨1, m, n, m * n + x, e, f⟩ ↔ (x = 1 ∨ x = -1) := fun x => by
    show 1 * (m * n + x) - m * n = 1 ∨ 1 * (m * n + x) - m * n = -1 ↔ _
    constructor
    · rintro (h | h)
      · left; grind
      · right; grind
    · rintro (h | h)
      · left; subst h; grind
      · right; subst h; grind
  have bm : ∀ x : Int, Bt 200 x → BM 300 ⟨1, m, n, m * n + x, e, f⟩ := fun x hx =>
    ⟨one.mono (by decide), hm.mono (by decide), hn.mono (by decide), (bmn.add hx).mono (by decide), he.mono (by decide), bf.mono (by decide)⟩
  have tp : ∀ (x y : Int), y = m * n + x → (Dat.tup [.int 1, .int m, .int n, .int y, .int e, .int f]) = mv ⟨1, m, n, m * n + x, e, f⟩ := fun x y h => by rw [h]; rfl
  have no : ∀ (x y : Int), y = m * n + x → x ≠ 1 → x ≠ -1 → Bt 200 x → NoMv (.tup [.int 1, .int m, .int n, .int y, .int e, .int f]) := fun x y h n1 n2 hx => by
    rw [tp x y h]
    exact noMv_mv (fun z => ((det x).mp z).elim n1 n2) ((bm x hx).mono (by decide))
  have nx : ∀ d : Dat, sixB d = false → NoMv d := fun d h => ⟨by unfold moveB; rw [h]; rfl, fun m z => by rw [z] at h; exact nomatch h⟩
  refine k ⟨1, m, n, 1 + m * n, e, f⟩ [.tup [.int 1, .int m, .int n, .int (1 + m * n + o), .int e, .int f], .tup [.int 1, .int m, .int n, .int (m * n - 1 - o), .int e, .int f], .tup [.int 1, .int m, .int n, .int (1 + m * n), .int e], .tup [.int 1, .int m, .int n, .int (1 + m * n), .int e, .int f, .int 0], .lst [.int 1, .int m, .int n, .int (1 + m * n), .int e, .int f], .tup [.int 1, .int m, .int n, .int (m * n), .int e, .int f], .tup [.bl true, .int m, .int n, .int (1 + m * n), .int e, .int f], .tup [.int 1, .int m, .int n, .int (1 + m * n), .int e, .str "0"], .tup [.int e, .int f], .non, .str "1 0 0 1 0 0"] ?_ rfl ?_ ?_ ?_
  · have := (det 1).mpr (.inl rfl)
    rw [Int.add_comm] at this
    exact this
  · have := bm 1 (one.mono (by decide))
    rw [Int.add_comm] at this
    exact this
  rotate_left
  · intro d hd
    simp only [List.mem_cons, List.not_mem_nil, or_false] at hd
    rcases hd with rfl | rfl | rfl | rfl | rfl | rfl | rfl | rfl | rfl | rfl | rfl
    · exact no (1 + o) _ (by omega) (by omega) (by omega) ((one.add bo).mono (by decide))
    · exact no (-1 - o) _ (by omega) (by omega) (by omega) (((Bt.lit (k := 1) (by decide)).sub bo).mono (by decide))
    · exact nx _ rfl
    · exact nx _ rfl
    · exact nx _ rfl
    · exact no 0 _ (by omega) (by decide) (by decide) (Bt.lit (by decide))
    · exact nx _ rfl
    · exact nx _ rfl
    · exact nx _ rfl
    · exact nx _ rfl
    · exact nx _ rfl
  · simp
inductive S_L_no_field : List Dat → (Rv → Prop) → (Str → Prop) → Prop
  | mk {κ : Rv → Prop} {ε : Str → Prop} (k : κ (.v (.bl true))) : S_L_no_field [.lst []] κ ε
theorem sem_L_no_field : ∀ ds κ ε, S_L_no_field ds κ ε → d_L_no_field S_field (endsOf κ ε) (entry ms_L_no_field 3 ds) := by
  intro ds κ ε h
  obtain ⟨k⟩ := h
  walk_at "lp"
  refine .no ?_
  refine onS_some rfl (ifT rfl fun a => ?_)
  walk_at "isx"
  walk_at "w"
  refine ⟨by decide, ?_⟩
  walk_at "w"
  refine ⟨Nat.le_of_lt (sz_ok (by decide)), ?_⟩
  walk_at "w"
  exact ⟨⟨rfl, rfl⟩, rfl, k⟩
inductive S_L_no_move : List Dat → (Rv → Prop) → (Str → Prop) → Prop
  | mk {κ : Rv → Prop} {ε : Str → Prop} (ps : List Pt) (d : Dat) (h0 : ps ≠ []) (hb : ∀ p ∈ ps, BP 20000 p) (hm : NoMv d) (k : κ (.v (.bl true))) : S_L_no_move [.lst (ps.map pt), d] κ ε
theorem sem_L_no_move : ∀ ds κ ε, S_L_no_move ds κ ε → d_L_no_move S_field_moved (endsOf κ ε) (entry ms_L_no_move 4 ds) := by
  intro ds κ ε h
  obtain ⟨ps, d, h0, hb, hm, k⟩ := h
  cases d <;> (
    refine ⟨rfl, .no ps _ h0 hb hm.no hm.bm (onS_some rfl (ifT rfl fun a => ?_))⟩
    walk_at "isx"
    walk_at "w"
    refine ⟨by decide, ?_⟩
    walk_at "w"
    refine ⟨Nat.le_of_lt (sz_ok (by decide)), ?_⟩
    walk_at "w"
    exact ⟨⟨rfl, rfl⟩, rfl, k⟩)
theorem cut_one (x : Dat) (xs : List Dat) : DL.cutD (x :: xs) (some 1) none = xs := by
  unfold DL.cutD
  have e : HT.sIx (x :: xs).length 0 (some 1) = 1 := by
    show (if (1 : Int) < 0 then ((1 : Int) + ((x :: xs).length : Int)).toNat else min (1 : Int).toNat (x :: xs).length) = 1
    rw [if_neg (by decide), List.length_cons]
    show min 1 (xs.length + 1) = 1
    omega
  rw [e]
  show (xs.drop 0).take ((xs.length + 1) - 1) = xs
  rw [List.drop_zero, Nat.add_sub_cancel, List.take_length]
def S_law : Fsp := fun ds κ _ => ∃ ns : List Int, ds = [.lst (ns.map Dat.int)] ∧ Scr ns ∧ κ (.v (.bl true))
theorem S_law_of (ns : List Int) (κ : Rv → Prop) (ε : Str → Prop) (h : Scr ns) (k : κ (.v (.bl true))) : S_law [.lst (ns.map Dat.int)] κ ε := ⟨ns, rfl, h, k⟩
theorem sem_law : ∀ ds κ ε, S_law ds κ ε → d_law S_L_land S_L_corners S_L_no_field S_is_field S_field S_L_moves S_L_no_move S_field_moved (endsOf κ ε) (entry ms_law 10 ds) := by
  intro ds κ ε h
  obtain ⟨ns, rfl, hs, k⟩ := h
  show d_law _ _ _ _ _ _ _ _ _ [.br (ns.map Dat.int), .un, .un, .un, .un, .un, .un, .un, .un, .un]
  refine .mk ns hs fun ps h0 hl hb => ?_
  walk_at "nz"
  refine .mk ps (by omega) (fun p hp => (hb p hp).mono (by decide)) ?_
  obtain ⟨p0, pr, rfl⟩ : ∃ p qs, ps = p :: qs := by
    cases ps with
    | nil => exact absurd rfl h0
    | cons p qs => exact ⟨p, qs, rfl⟩
  have bp0 := hb p0 (by simp)
  have H0 := hull_ne h0
  have HL : (hull (p0 :: pr)).length < 64 := by have := hull_len (p0 :: pr); omega
  have HB : ∀ p ∈ hull (p0 :: pr), BP 150 p := fun p hp => hb p (hull_mem hp)
  have HH := hull_hull (p0 :: pr)
  generalize hX : hull (p0 :: pr) = X at *
  show t_law_2 S_L_land S_L_corners S_L_no_field S_is_field S_field S_L_moves S_L_no_move S_field_moved (endsOf κ ε) [.br (ns.map Dat.int), .ow ((p0 :: pr).map pt), .ow (X.map pt), .un, .un, .un, .un, .un, .un, .un]
  refine ⟨rfl, ?_⟩
  show t_law_3 S_L_land S_L_corners S_L_no_field S_is_field S_field S_L_moves S_L_no_move S_field_moved (endsOf κ ε) [.br (ns.map Dat.int), .ow ((p0 :: pr).map pt), .ow (X.map pt), .ow [], .un, .un, .un, .un, .un, .un]
  refine .mk ?_
  walk_at "w"
  refine ⟨rfl, ⟨rfl, rfl⟩, ?_⟩
  walk_at "w"
  refine ⟨rfl, .no ?_⟩
  walk_at "w"
  refine ⟨rfl, .mk ?_⟩
  walk_at "w"
  refine onS_some (at_mapI (f := pt) (xs := p0 :: pr) (x := p0) (j := 0) rfl rfl) ⟨sz_ok (by decide), ?_⟩
  show t_law_5 S_L_land S_L_corners S_L_no_field S_is_field S_field S_L_moves S_L_no_move S_field_moved (endsOf κ ε) [.br (ns.map Dat.int), .ow ((p0 :: pr).map pt), .ow (X.map pt), .ow ([p0].map pt), .un, .un, .un, .un, .un, .un]
  refine field_go [p0] rfl (by simp) (by simp) (by simpa using bp0.mono (by decide : 150 ≤ 100000)) ?_
  rw [hull_one]
  refine onS_some (at_mapI (f := pt) (xs := p0 :: pr) (x := p0) (j := 0) rfl rfl) ⟨rfl, ⟨shp_pts _ [p0], shp_pts _ [p0]⟩, ?_⟩
  refine ifPtsNe (p := [p0]) (q := [p0]) (fun z => absurd rfl z) fun _ => ?_
  refine .mk [p0] (by simp) (by simp) (by simpa using bp0.mono (by decide : 150 ≤ 100000)) ?_
  rw [hull_one, decide_eq_true rfl]
  walk_at "w"
  refine .mk ns hs fun g T im a1 bg lT hT => ?_
  show t_law_7 S_L_land S_L_corners S_L_no_field S_is_field S_field S_L_moves S_L_no_move S_field_moved (endsOf κ ε) [.br (ns.map Dat.int), .ow ((p0 :: pr).map pt), .ow (X.map pt), .ow ([p0].map pt), .ow (mv g :: T), .un, .un, .un, .un, .un]
  refine onS_some (x := mv g) (by simpa using at_mapI (f := (id : Dat → Dat)) (xs := mv g :: T) (x := mv g) (i := 0) (j := 0) rfl rfl) ?_
  show t_law_8 S_L_land S_L_corners S_L_no_field S_is_field S_field S_L_moves S_L_no_move S_field_moved (endsOf κ ε) [.br (ns.map Dat.int), .ow ((p0 :: pr).map pt), .ow (X.map pt), .ow ([p0].map pt), .ow (mv g :: T), .fz (mv g), .un, .un, .un, .un]
  refine ⟨rfl, ?_⟩
  obtain ⟨ba, bb, bc, bd, be, bf⟩ := bg
  have bg : BM 300 g := ⟨ba, bb, bc, bd, be, bf⟩
  refine lc_map (xs := X) (f := pt) (h := fun p => pt (act g p)) (by omega) (fun p N hp hN => ?_) ?_
  · have bp := HB p hp
    refine ⟨rfl, ?_⟩
    walk_at "w"
    refine onS_some rfl ⟨mulok bb bp.y rfl, ?_⟩
    refine onS_some rfl (onS_some rfl ⟨mulok bc bp.x rfl, onS_some rfl ⟨mulok bd bp.y rfl, onS_some rfl ⟨rfl, ?_⟩⟩⟩)
    have e : pt (act g p) = .tup [.int (p.1 + g.b * p.2 + g.e), .int (g.c * p.1 + g.d * p.2 + g.f)] := by
      unfold act
      rw [a1, Int.one_mul]; rfl
    rw [e] at hN
    exact hN
  have e1 : X.map (fun p => pt (act g p)) = (X.map (act g)).map pt := by rw [List.map_map]; rfl
  rw [e1]
  refine .mk (X.map (act g)) (by rw [List.length_map]; exact HL) (fun p hp => ?_) ?_
  · obtain ⟨q, hq, rfl⟩ := List.mem_map.mp hp
    exact (act_bp bg (HB q hq)).mono (by decide)
  generalize hD : hull (X.map (act g)) = D
  show t_law_10 S_L_land S_L_corners S_L_no_field S_is_field S_field S_L_moves S_L_no_move S_field_moved (endsOf κ ε) [.br (ns.map Dat.int), .ow ((p0 :: pr).map pt), .ow (X.map pt), .ow (X.map pt), .ow (mv g :: T), .fz (mv g), .ow (D.map pt), .un, .un, .un]
  refine ⟨rfl, ?_⟩
  show sForL (gN 9) (b_law_2 S_L_no_move S_field_moved) _ (DL.cutD (mv g :: T) (some 1) none) _
  rw [cut_one]
  refine for_ind (ds := T) (fun i ρ => ∃ s9, ρ = [.br (ns.map Dat.int), .ow ((p0 :: pr).map pt), .ow (X.map pt), .ow (X.map pt), .ow (mv g :: T), .fz (mv g), .ow (D.map pt), .un, .un, s9]) ⟨_, rfl⟩ (fun i d ρ N hd h hN => ?_) (fun ρ h => ?_)
  · obtain ⟨s9, rfl⟩ := h
    have hm := hT d (List.mem_of_getElem? hd)
    show b_law_2 S_L_no_move S_field_moved { (endsOf κ ε) with nx := N, ct := N, bk := t_law_11 S_L_land S_L_corners S_L_no_field S_is_field S_field S_L_moves S_L_no_move S_field_moved (endsOf κ ε) } [.br (ns.map Dat.int), .ow ((p0 :: pr).map pt), .ow (X.map pt), .ow (X.map pt), .ow (mv g :: T), .fz (mv g), .ow (D.map pt), .un, .un, .fz d]
    refine .mk X d H0 (fun p hp => (HB p hp).mono (by decide)) hm ?_
    walk_at "w"
    refine ⟨⟨shp_pts _ _, shp_pts _ _⟩, ifPtsNe (fun z => absurd rfl z) fun _ => ?_⟩
    refine .mk X g H0 HL (fun p hp => (HB p hp).mono (by decide)) im (bg.mono (by decide)) ?_
    rw [hD]
    refine ⟨⟨shp_pts _ _, shp_pts _ _⟩, ifPtsNe (fun z => absurd rfl z) fun _ => ?_⟩
    exact hN _ ⟨_, rfl⟩
  · obtain ⟨s9, rfl⟩ := h
    exact ⟨rfl, k⟩
end Py
namespace Py
open PySem PySem.Spec PyProof.Rows L2 DL
theorem all_mk {l : PySem.W.OpenLaw} {w : World} {K : PySem.W.Frag} {h : Heap} {mg : MG} {fa f0 f1 f2 f3 f4 f5 f6 f7 f8 f9 f10 f11 f12 f13 f14 f15 f16 f17 f18 : Addr} (X : K.In h) (G : h.Ns mainGlobals mg) (hfa : mg "law" = some (.ref fa))
    {od0 od1 od2 od3 od4 od5 od6 od7 od8 od9 od10 od11 od12 od13 od14 od15 od16 od17 od18 an0 an1 an2 an3 an4 an5 an6 an7 an8 an9 an10 an11 an12 an13 an14 an15 an16 an17 an18 : Option Addr} {sl0 sl1 sl2 sl3 sl4 sl5 sl6 sl7 sl8 sl9 sl10 sl11 sl12 sl13 sl14 sl15 sl16 sl17 sl18 : Array (Option Value)} {oc0 oc1 oc2 oc3 oc4 oc5 oc6 oc7 oc8 oc9 oc10 oc11 oc12 oc13 oc14 oc15 oc16 oc17 oc18 kV0 kV1 kV2 kV3 kV4 kV5 kV6 kV7 kV8 kV9 kV10 kV11 kV12 kV13 kV14 kV15 kV16 kV17 kV18 dc0 dc1 dc2 dc3 dc4 dc5 dc6 dc7 dc8 dc9 dc10 dc11 dc12 dc13 dc14 dc15 dc16 dc17 dc18 pm0 pm1 pm2 pm3 pm4 pm5 pm6 pm7 pm8 pm9 pm10 pm11 pm12 pm13 pm14 pm15 pm16 pm17 pm18 cd0 cd1 cd2 cd3 cd4 cd5 cd6 cd7 cd8 cd9 cd10 cd11 cd12 cd13 cd14 cd15 cd16 cd17 cd18 ct0 ct1 ct2 ct3 ct4 ct5 ct6 ct7 ct8 ct9 ct10 ct11 ct12 ct13 ct14 ct15 ct16 ct17 ct18 : Value}
    (a0 : PySem.W.nsIn K mainGlobals "is_whole" = some (some (.ref f0))) (l0 : K.lookup f0 = some ⟨oc0, od0, .func (PySem.W.fnOf "is_whole" "is_whole" (defArgs s_is_whole) (defBody s_is_whole) (defScope s_is_whole) .none kV0 dc0 pm0 an0 cd0 ct0), sl0⟩) (c0 : PySem.W.codeIn K cd0 "is_whole" = true) (k0 : PySem.W.keepIn K (.ref f0) = true)
    (a1 : PySem.W.nsIn K mainGlobals "is_move" = some (some (.ref f1))) (l1 : K.lookup f1 = some ⟨oc1, od1, .func (PySem.W.fnOf "is_move" "is_move" (defArgs s_is_move) (defBody s_is_move) (defScope s_is_move) .none kV1 dc1 pm1 an1 cd1 ct1), sl1⟩) (c1 : PySem.W.codeIn K cd1 "is_move" = true) (k1 : PySem.W.keepIn K (.ref f1) = true)
    (a2 : PySem.W.nsIn K mainGlobals "need_move" = some (some (.ref f2))) (l2 : K.lookup f2 = some ⟨oc2, od2, .func (PySem.W.fnOf "need_move" "need_move" (defArgs s_need_move) (defBody s_need_move) (defScope s_need_move) .none kV2 dc2 pm2 an2 cd2 ct2), sl2⟩) (c2 : PySem.W.codeIn K cd2 "need_move" = true) (k2 : PySem.W.keepIn K (.ref f2) = true)
    (a3 : PySem.W.nsIn K mainGlobals "moved" = some (some (.ref f3))) (l3 : K.lookup f3 = some ⟨oc3, od3, .func (PySem.W.fnOf "moved" "moved" (defArgs s_moved) (defBody s_moved) (defScope s_moved) .none kV3 dc3 pm3 an3 cd3 ct3), sl3⟩) (c3 : PySem.W.codeIn K cd3 "moved" = true) (k3 : PySem.W.keepIn K (.ref f3) = true)
    (a4 : PySem.W.nsIn K mainGlobals "turn" = some (some (.ref f4))) (l4 : K.lookup f4 = some ⟨oc4, od4, .func (PySem.W.fnOf "turn" "turn" (defArgs s_turn) (defBody s_turn) (defScope s_turn) .none kV4 dc4 pm4 an4 cd4 ct4), sl4⟩) (c4 : PySem.W.codeIn K cd4 "turn" = true) (k4 : PySem.W.keepIn K (.ref f4) = true)
    (a5 : PySem.W.nsIn K mainGlobals "half_round" = some (some (.ref f5))) (l5 : K.lookup f5 = some ⟨oc5, od5, .func (PySem.W.fnOf "half_round" "half_round" (defArgs s_half_round) (defBody s_half_round) (defScope s_half_round) .none kV5 dc5 pm5 an5 cd5 ct5), sl5⟩) (c5 : PySem.W.codeIn K cd5 "half_round" = true) (k5 : PySem.W.keepIn K (.ref f5) = true)
    (a6 : PySem.W.nsIn K mainGlobals "field" = some (some (.ref f6))) (l6 : K.lookup f6 = some ⟨oc6, od6, .func (PySem.W.fnOf "field" "field" (defArgs s_field) (defBody s_field) (defScope s_field) .none kV6 dc6 pm6 an6 cd6 ct6), sl6⟩) (c6 : PySem.W.codeIn K cd6 "field" = true) (k6 : PySem.W.keepIn K (.ref f6) = true)
    (a7 : PySem.W.nsIn K mainGlobals "is_field" = some (some (.ref f7))) (l7 : K.lookup f7 = some ⟨oc7, od7, .func (PySem.W.fnOf "is_field" "is_field" (defArgs s_is_field) (defBody s_is_field) (defScope s_is_field) .none kV7 dc7 pm7 an7 cd7 ct7), sl7⟩) (c7 : PySem.W.codeIn K cd7 "is_field" = true) (k7 : PySem.W.keepIn K (.ref f7) = true)
    (a8 : PySem.W.nsIn K mainGlobals "field_moved" = some (some (.ref f8))) (l8 : K.lookup f8 = some ⟨oc8, od8, .func (PySem.W.fnOf "field_moved" "field_moved" (defArgs s_field_moved) (defBody s_field_moved) (defScope s_field_moved) .none kV8 dc8 pm8 an8 cd8 ct8), sl8⟩) (c8 : PySem.W.codeIn K cd8 "field_moved" = true) (k8 : PySem.W.keepIn K (.ref f8) = true)
    (a9 : PySem.W.nsIn K mainGlobals "_law_cell" = some (some (.ref f9))) (l9 : K.lookup f9 = some ⟨oc9, od9, .func (PySem.W.fnOf "_law_cell" "_law_cell" (defArgs s_L_cell) (defBody s_L_cell) (defScope s_L_cell) .none kV9 dc9 pm9 an9 cd9 ct9), sl9⟩) (c9 : PySem.W.codeIn K cd9 "_law_cell" = true) (k9 : PySem.W.keepIn K (.ref f9) = true)
    (a10 : PySem.W.nsIn K mainGlobals "_law_side" = some (some (.ref f10))) (l10 : K.lookup f10 = some ⟨oc10, od10, .func (PySem.W.fnOf "_law_side" "_law_side" (defArgs s_L_side) (defBody s_L_side) (defScope s_L_side) .none kV10 dc10 pm10 an10 cd10 ct10), sl10⟩) (c10 : PySem.W.codeIn K cd10 "_law_side" = true) (k10 : PySem.W.keepIn K (.ref f10) = true)
    (a11 : PySem.W.nsIn K mainGlobals "_law_half" = some (some (.ref f11))) (l11 : K.lookup f11 = some ⟨oc11, od11, .func (PySem.W.fnOf "_law_half" "_law_half" (defArgs s_L_half) (defBody s_L_half) (defScope s_L_half) .none kV11 dc11 pm11 an11 cd11 ct11), sl11⟩) (c11 : PySem.W.codeIn K cd11 "_law_half" = true) (k11 : PySem.W.keepIn K (.ref f11) = true)
    (a12 : PySem.W.nsIn K mainGlobals "_law_corners" = some (some (.ref f12))) (l12 : K.lookup f12 = some ⟨oc12, od12, .func (PySem.W.fnOf "_law_corners" "_law_corners" (defArgs s_L_corners) (defBody s_L_corners) (defScope s_L_corners) .none kV12 dc12 pm12 an12 cd12 ct12), sl12⟩) (c12 : PySem.W.codeIn K cd12 "_law_corners" = true) (k12 : PySem.W.keepIn K (.ref f12) = true)
    (a13 : PySem.W.nsIn K mainGlobals "_law_great" = some (some (.ref f13))) (l13 : K.lookup f13 = some ⟨oc13, od13, .func (PySem.W.fnOf "_law_great" "_law_great" (defArgs s_L_great) (defBody s_L_great) (defScope s_L_great) .none kV13 dc13 pm13 an13 cd13 ct13), sl13⟩) (c13 : PySem.W.codeIn K cd13 "_law_great" = true) (k13 : PySem.W.keepIn K (.ref f13) = true)
    (a14 : PySem.W.nsIn K mainGlobals "_law_land" = some (some (.ref f14))) (l14 : K.lookup f14 = some ⟨oc14, od14, .func (PySem.W.fnOf "_law_land" "_law_land" (defArgs s_L_land) (defBody s_L_land) (defScope s_L_land) .none kV14 dc14 pm14 an14 cd14 ct14), sl14⟩) (c14 : PySem.W.codeIn K cd14 "_law_land" = true) (k14 : PySem.W.keepIn K (.ref f14) = true)
    (a15 : PySem.W.nsIn K mainGlobals "_law_moves" = some (some (.ref f15))) (l15 : K.lookup f15 = some ⟨oc15, od15, .func (PySem.W.fnOf "_law_moves" "_law_moves" (defArgs s_L_moves) (defBody s_L_moves) (defScope s_L_moves) .none kV15 dc15 pm15 an15 cd15 ct15), sl15⟩) (c15 : PySem.W.codeIn K cd15 "_law_moves" = true) (k15 : PySem.W.keepIn K (.ref f15) = true)
    (a16 : PySem.W.nsIn K mainGlobals "_law_no_field" = some (some (.ref f16))) (l16 : K.lookup f16 = some ⟨oc16, od16, .func (PySem.W.fnOf "_law_no_field" "_law_no_field" (defArgs s_L_no_field) (defBody s_L_no_field) (defScope s_L_no_field) .none kV16 dc16 pm16 an16 cd16 ct16), sl16⟩) (c16 : PySem.W.codeIn K cd16 "_law_no_field" = true) (k16 : PySem.W.keepIn K (.ref f16) = true)
    (a17 : PySem.W.nsIn K mainGlobals "_law_no_move" = some (some (.ref f17))) (l17 : K.lookup f17 = some ⟨oc17, od17, .func (PySem.W.fnOf "_law_no_move" "_law_no_move" (defArgs s_L_no_move) (defBody s_L_no_move) (defScope s_L_no_move) .none kV17 dc17 pm17 an17 cd17 ct17), sl17⟩) (c17 : PySem.W.codeIn K cd17 "_law_no_move" = true) (k17 : PySem.W.keepIn K (.ref f17) = true)
    (a18 : PySem.W.nsIn K mainGlobals "law" = some (some (.ref f18))) (l18 : K.lookup f18 = some ⟨oc18, od18, .func (PySem.W.fnOf "law" "law" (defArgs s_law) (defBody s_law) (defScope s_law) .none kV18 dc18 pm18 an18 cd18 ct18), sl18⟩) (c18 : PySem.W.codeIn K cd18 "law" = true) (k18 : PySem.W.keepIn K (.ref f18) = true)
    (zabs_ : PySem.W.nsIn K mainGlobals "abs" = some none)
    (zbool_ : PySem.W.nsIn K mainGlobals "bool" = some none)
    (zint_ : PySem.W.nsIn K mainGlobals "int" = some none)
    (zisinstance_ : PySem.W.nsIn K mainGlobals "isinstance" = some none)
    (zlen_ : PySem.W.nsIn K mainGlobals "len" = some none)
    (zlist_ : PySem.W.nsIn K mainGlobals "list" = some none)
    (zmax_ : PySem.W.nsIn K mainGlobals "max" = some none)
    (zmin_ : PySem.W.nsIn K mainGlobals "min" = some none)
    (zrange_ : PySem.W.nsIn K mainGlobals "range" = some none)
    (zreversed_ : PySem.W.nsIn K mainGlobals "reversed" = some none)
    (zset_ : PySem.W.nsIn K mainGlobals "set" = some none)
    (zsorted_ : PySem.W.nsIn K mainGlobals "sorted" = some none)
    (ztuple_ : PySem.W.nsIn K mainGlobals "tuple" = some none)
    {e0 e1 e2 e3 e4 e5 e6 e7 e8 e9 e10 e11 e12 : Addr}
    (ea0 : PySem.W.nsIn K mainGlobals "Flat" = some (some (.ref e0)))
    (ek0 : PySem.W.keepIn K (.ref e0) = true)
    (ea1 : PySem.W.nsIn K mainGlobals "NoField" = some (some (.ref e1)))
    (ex1 : PySem.W.excIn K e1 veB "ValueError.__new__" = true) (eb1 : PySem.W.subIn K (.ref e1) (.type "BaseException") = some true) (et1 : PySem.W.typeIn K (.ref e1) = some (.type "type"))
    (ek1 : PySem.W.keepIn K (.ref e1) = true)
    (ei1 : PySem.W.findIn K (.ref e1) "__getattribute__" = some (some (.builtin "BaseException.__getattribute__"))) (ej1 : PySem.W.findIn K (.ref e1) "__getattr__" = some none) (eh1 : PySem.W.hasDictIn K e1 = true) (ec1 : PySem.W.findIn K (.ref e1) "__class__" = some (some (.builtin "object.__class__"))) (em1 : PySem.W.mroIn K e1 (.type "object") = some true)
    (ea2 : PySem.W.nsIn K mainGlobals "NoHeart" = some (some (.ref e2)))
    (ek2 : PySem.W.keepIn K (.ref e2) = true)
    (ea3 : PySem.W.nsIn K mainGlobals "NoMove" = some (some (.ref e3)))
    (ex3 : PySem.W.excIn K e3 veB "ValueError.__new__" = true) (eb3 : PySem.W.subIn K (.ref e3) (.type "BaseException") = some true) (et3 : PySem.W.typeIn K (.ref e3) = some (.type "type"))
    (ek3 : PySem.W.keepIn K (.ref e3) = true)
    (ei3 : PySem.W.findIn K (.ref e3) "__getattribute__" = some (some (.builtin "BaseException.__getattribute__"))) (ej3 : PySem.W.findIn K (.ref e3) "__getattr__" = some none) (eh3 : PySem.W.hasDictIn K e3 = true) (ec3 : PySem.W.findIn K (.ref e3) "__class__" = some (some (.builtin "object.__class__"))) (em3 : PySem.W.mroIn K e3 (.type "object") = some true)
    (ea4 : PySem.W.nsIn K mainGlobals "NoName" = some (some (.ref e4)))
    (ek4 : PySem.W.keepIn K (.ref e4) = true)
    (ea5 : PySem.W.nsIn K mainGlobals "NoNumber" = some (some (.ref e5)))
    (ek5 : PySem.W.keepIn K (.ref e5) = true)
    (ea6 : PySem.W.nsIn K mainGlobals "NoRow" = some (some (.ref e6)))
    (ek6 : PySem.W.keepIn K (.ref e6) = true)
    (ea7 : PySem.W.nsIn K mainGlobals "NoText" = some (some (.ref e7)))
    (ek7 : PySem.W.keepIn K (.ref e7) = true)
    (ea8 : PySem.W.nsIn K mainGlobals "NoWedge" = some (some (.ref e8)))
    (ek8 : PySem.W.keepIn K (.ref e8) = true)
    (ea9 : PySem.W.nsIn K mainGlobals "NotThere" = some (some (.ref e9)))
    (ek9 : PySem.W.keepIn K (.ref e9) = true)
    (ea10 : PySem.W.nsIn K mainGlobals "StakeError" = some (some (.ref e10)))
    (ea11 : PySem.W.nsIn K mainGlobals "TooGreat" = some (some (.ref e11)))
    (ek11 : PySem.W.keepIn K (.ref e11) = true)
    (ea12 : PySem.W.nsIn K mainGlobals "TooMany" = some (some (.ref e12)))
    (ek12 : PySem.W.keepIn K (.ref e12) = true)
    (en : PySem.W.specialIn K (.builtin "object.__class__") "__get__" = some (some (.builtin "getset_descriptor.__get__"))) (eo : PySem.W.takesIn K (.builtin "object.__class__") = some true)
    (zve : PySem.W.nsIn K mainGlobals "ValueError" = some none)
    (m1_10 : PySem.W.exmOne K (.ref e1) (.ref e10) = some true)
    (m3_10 : PySem.W.exmOne K (.ref e3) (.ref e10) = some true)
    (i1_0 : PySem.W.kitOne K (.ref e1) (.ref e0) = some false)
    (i3_0 : PySem.W.kitOne K (.ref e3) (.ref e0) = some false)
    (i1_1 : PySem.W.kitOne K (.ref e1) (.ref e1) = some true)
    (i3_1 : PySem.W.kitOne K (.ref e3) (.ref e1) = some false)
    (i1_2 : PySem.W.kitOne K (.ref e1) (.ref e2) = some false)
    (i3_2 : PySem.W.kitOne K (.ref e3) (.ref e2) = some false)
    (i1_3 : PySem.W.kitOne K (.ref e1) (.ref e3) = some false)
    (i3_3 : PySem.W.kitOne K (.ref e3) (.ref e3) = some true)
    (i1_4 : PySem.W.kitOne K (.ref e1) (.ref e4) = some false)
    (i3_4 : PySem.W.kitOne K (.ref e3) (.ref e4) = some false)
    (i1_5 : PySem.W.kitOne K (.ref e1) (.ref e5) = some false)
    (i3_5 : PySem.W.kitOne K (.ref e3) (.ref e5) = some false)
    (i1_6 : PySem.W.kitOne K (.ref e1) (.ref e6) = some false)
    (i3_6 : PySem.W.kitOne K (.ref e3) (.ref e6) = some false)
    (i1_7 : PySem.W.kitOne K (.ref e1) (.ref e7) = some false)
    (i3_7 : PySem.W.kitOne K (.ref e3) (.ref e7) = some false)
    (i1_8 : PySem.W.kitOne K (.ref e1) (.ref e8) = some false)
    (i3_8 : PySem.W.kitOne K (.ref e3) (.ref e8) = some false)
    (i1_9 : PySem.W.kitOne K (.ref e1) (.ref e9) = some false)
    (i3_9 : PySem.W.kitOne K (.ref e3) (.ref e9) = some false)
    (i1_11 : PySem.W.kitOne K (.ref e1) (.ref e11) = some false)
    (i3_11 : PySem.W.kitOne K (.ref e3) (.ref e11) = some false)
    (i1_12 : PySem.W.kitOne K (.ref e1) (.ref e12) = some false)
    (i3_12 : PySem.W.kitOne K (.ref e3) (.ref e12) = some false)
    (iv1 : PySem.W.kitOne K (.ref e1) (.type "ValueError") = some true)
    (iv3 : PySem.W.kitOne K (.ref e3) (.type "ValueError") = some true)
    : ∃ fd : FuncData, (∀ (s : Shared) (v : Value), BindsTo s fd ⟨[v], []⟩ [("script", v)]) ∧ ∀ base : Heap, K.In base → base.Ns mainGlobals mg → FnOk l.prog w K mg base (L2.CX l.prog w) 7 fa fd ["script"] (spLaw K) := by
  have e := hfa.symm.trans (PySem.W.mg_of X G a18)
  cases e
  have B : Bs mg := ⟨PySem.W.mg_none_of X G zabs_, PySem.W.mg_none_of X G zbool_, PySem.W.mg_none_of X G zint_, PySem.W.mg_none_of X G zisinstance_, PySem.W.mg_none_of X G zlen_, PySem.W.mg_none_of X G zlist_, PySem.W.mg_none_of X G zmax_, PySem.W.mg_none_of X G zmin_, PySem.W.mg_none_of X G zrange_, PySem.W.mg_none_of X G zreversed_, PySem.W.mg_none_of X G zset_, PySem.W.mg_none_of X G zsorted_, PySem.W.mg_none_of X G ztuple_⟩
  have ga0 := PySem.W.mg_of X G ea0
  have ga1 := PySem.W.mg_of X G ea1
  have ga2 := PySem.W.mg_of X G ea2
  have ga3 := PySem.W.mg_of X G ea3
  have ga4 := PySem.W.mg_of X G ea4
  have ga5 := PySem.W.mg_of X G ea5
  have ga6 := PySem.W.mg_of X G ea6
  have ga7 := PySem.W.mg_of X G ea7
  have ga8 := PySem.W.mg_of X G ea8
  have ga9 := PySem.W.mg_of X G ea9
  have ga10 := PySem.W.mg_of X G ea10
  have ga11 := PySem.W.mg_of X G ea11
  have ga12 := PySem.W.mg_of X G ea12
  have xc1 : ExcC K e1 := ⟨ei1, ej1, eb1, eh1, ec1, en, eo, em1⟩
  have xc3 : ExcC K e3 := ⟨ei3, ej3, eb3, eh3, ec3, en, eo, em3⟩
  have EX : Es K mg := ⟨⟨_, ga1, ex1, ek1, eb1, et1⟩, ⟨_, ga3, ex3, ek3, eb3, et3⟩, ⟨_, ga10⟩, ⟨List.forall_mem_cons.mpr ⟨.mk' ga1 ga10 m1_10, List.forall_mem_cons.mpr ⟨.mk' ga3 ga10 m3_10, (fun _ h => nomatch h)⟩⟩, List.forall_mem_cons.mpr ⟨.mk' ga1 xc1 ga0 ek0 i1_0, List.forall_mem_cons.mpr ⟨.mk' ga3 xc3 ga0 ek0 i3_0, List.forall_mem_cons.mpr ⟨.mk' ga1 xc1 ga1 ek1 i1_1, List.forall_mem_cons.mpr ⟨.mk' ga3 xc3 ga1 ek1 i3_1, List.forall_mem_cons.mpr ⟨.mk' ga1 xc1 ga2 ek2 i1_2, List.forall_mem_cons.mpr ⟨.mk' ga3 xc3 ga2 ek2 i3_2, List.forall_mem_cons.mpr ⟨.mk' ga1 xc1 ga3 ek3 i1_3, List.forall_mem_cons.mpr ⟨.mk' ga3 xc3 ga3 ek3 i3_3, List.forall_mem_cons.mpr ⟨.mk' ga1 xc1 ga4 ek4 i1_4, List.forall_mem_cons.mpr ⟨.mk' ga3 xc3 ga4 ek4 i3_4, List.forall_mem_cons.mpr ⟨.mk' ga1 xc1 ga5 ek5 i1_5, List.forall_mem_cons.mpr ⟨.mk' ga3 xc3 ga5 ek5 i3_5, List.forall_mem_cons.mpr ⟨.mk' ga1 xc1 ga6 ek6 i1_6, List.forall_mem_cons.mpr ⟨.mk' ga3 xc3 ga6 ek6 i3_6, List.forall_mem_cons.mpr ⟨.mk' ga1 xc1 ga7 ek7 i1_7, List.forall_mem_cons.mpr ⟨.mk' ga3 xc3 ga7 ek7 i3_7, List.forall_mem_cons.mpr ⟨.mk' ga1 xc1 ga8 ek8 i1_8, List.forall_mem_cons.mpr ⟨.mk' ga3 xc3 ga8 ek8 i3_8, List.forall_mem_cons.mpr ⟨.mk' ga1 xc1 ga9 ek9 i1_9, List.forall_mem_cons.mpr ⟨.mk' ga3 xc3 ga9 ek9 i3_9, List.forall_mem_cons.mpr ⟨.mk' ga1 xc1 ga11 ek11 i1_11, List.forall_mem_cons.mpr ⟨.mk' ga3 xc3 ga11 ek11 i3_11, List.forall_mem_cons.mpr ⟨.mk' ga1 xc1 ga12 ek12 i1_12, List.forall_mem_cons.mpr ⟨.mk' ga3 xc3 ga12 ek12 i3_12, List.forall_mem_cons.mpr ⟨.mkV ga1 xc1 (PySem.W.mg_none_of X G zve) iv1, List.forall_mem_cons.mpr ⟨.mkV ga3 xc3 (PySem.W.mg_none_of X G zve) iv3, (fun _ h => nomatch h)⟩⟩⟩⟩⟩⟩⟩⟩⟩⟩⟩⟩⟩⟩⟩⟩⟩⟩⟩⟩⟩⟩⟩⟩⟩⟩⟩⟩
  have F0 := fun_mk (st := s_is_whole) l0 c0 k0
  have b0 := F0.binds (ps := ["thing"]) fun _ _ _ _ _ _ us hl => match us, hl with | [_], _ => rfl
  have F1 := fun_mk (st := s_is_move) l1 c1 k1
  have b1 := F1.binds (ps := ["thing"]) fun _ _ _ _ _ _ us hl => match us, hl with | [_], _ => rfl
  have F2 := fun_mk (st := s_need_move) l2 c2 k2
  have b2 := F2.binds (ps := ["thing"]) fun _ _ _ _ _ _ us hl => match us, hl with | [_], _ => rfl
  have F3 := fun_mk (st := s_moved) l3 c3 k3
  have b3 := F3.binds (ps := ["P", "move"]) fun _ _ _ _ _ _ us hl => match us, hl with | [_, _], _ => rfl
  have F4 := fun_mk (st := s_turn) l4 c4 k4
  have b4 := F4.binds (ps := ["one", "two", "three"]) fun _ _ _ _ _ _ us hl => match us, hl with | [_, _, _], _ => rfl
  have F5 := fun_mk (st := s_half_round) l5 c5 k5
  have b5 := F5.binds (ps := ["points"]) fun _ _ _ _ _ _ us hl => match us, hl with | [_], _ => rfl
  have F6 := fun_mk (st := s_field) l6 c6 k6
  have b6 := F6.binds (ps := ["points"]) fun _ _ _ _ _ _ us hl => match us, hl with | [_], _ => rfl
  have F7 := fun_mk (st := s_is_field) l7 c7 k7
  have b7 := F7.binds (ps := ["points"]) fun _ _ _ _ _ _ us hl => match us, hl with | [_], _ => rfl
  have F8 := fun_mk (st := s_field_moved) l8 c8 k8
  have b8 := F8.binds (ps := ["land", "move"]) fun _ _ _ _ _ _ us hl => match us, hl with | [_, _], _ => rfl
  have F9 := fun_mk (st := s_L_cell) l9 c9 k9
  have b9 := F9.binds (ps := ["script", "k"]) fun _ _ _ _ _ _ us hl => match us, hl with | [_, _], _ => rfl
  have F10 := fun_mk (st := s_L_side) l10 c10 k10
  have b10 := F10.binds (ps := ["a", "b", "p"]) fun _ _ _ _ _ _ us hl => match us, hl with | [_, _, _], _ => rfl
  have F11 := fun_mk (st := s_L_half) l11 c11 k11
  have b11 := F11.binds (ps := ["points"]) fun _ _ _ _ _ _ us hl => match us, hl with | [_], _ => rfl
  have F12 := fun_mk (st := s_L_corners) l12 c12 k12
  have b12 := F12.binds (ps := ["points"]) fun _ _ _ _ _ _ us hl => match us, hl with | [_], _ => rfl
  have F13 := fun_mk (st := s_L_great) l13 c13 k13
  have b13 := F13.binds (ps := ["cell", "most"]) fun _ _ _ _ _ _ us hl => match us, hl with | [_, _], _ => rfl
  have F14 := fun_mk (st := s_L_land) l14 c14 k14
  have b14 := F14.binds (ps := ["script"]) fun _ _ _ _ _ _ us hl => match us, hl with | [_], _ => rfl
  have F15 := fun_mk (st := s_L_moves) l15 c15 k15
  have b15 := F15.binds (ps := ["script"]) fun _ _ _ _ _ _ us hl => match us, hl with | [_], _ => rfl
  have F16 := fun_mk (st := s_L_no_field) l16 c16 k16
  have b16 := F16.binds (ps := ["points"]) fun _ _ _ _ _ _ us hl => match us, hl with | [_], _ => rfl
  have F17 := fun_mk (st := s_L_no_move) l17 c17 k17
  have b17 := F17.binds (ps := ["land", "thing"]) fun _ _ _ _ _ _ us hl => match us, hl with | [_, _], _ => rfl
  have F18 := fun_mk (st := s_law) l18 c18 k18
  have b18 := F18.binds (ps := ["script"]) fun _ _ _ _ _ _ us hl => match us, hl with | [_], _ => rfl
  refine ⟨PySem.W.fnOf "law" "law" (defArgs s_law) (defBody s_law) (defScope s_law) .none kV18 dc18 pm18 an18 cd18 ct18, fun s v => .of_eq rfl, fun base _ _ => ?_⟩
  have G0 := ok_is_whole (P := l.prog) (w := w) (base := base) F0 (PySem.W.mg_of X G a0) b0 B EX sem_is_whole
  have G1 := ok_is_move (P := l.prog) (w := w) (base := base) F1 (PySem.W.mg_of X G a1) b1 B EX G0 sem_is_move
  have G2 := ok_need_move (P := l.prog) (w := w) (base := base) F2 (PySem.W.mg_of X G a2) b2 B EX G1 sem_need_move
  have G3 := ok_moved (P := l.prog) (w := w) (base := base) F3 (PySem.W.mg_of X G a3) b3 B EX G2 sem_moved
  have G4 := ok_turn (P := l.prog) (w := w) (base := base) F4 (PySem.W.mg_of X G a4) b4 B EX sem_turn
  have G5 := ok_half_round (P := l.prog) (w := w) (base := base) F5 (PySem.W.mg_of X G a5) b5 B EX G4 sem_half_round
  have G6 := ok_field (P := l.prog) (w := w) (base := base) F6 (PySem.W.mg_of X G a6) b6 B EX G5 sem_field
  have G7 := ok_is_field (P := l.prog) (w := w) (base := base) F7 (PySem.W.mg_of X G a7) b7 B EX G6 sem_is_field
  have G8 := ok_field_moved (P := l.prog) (w := w) (base := base) F8 (PySem.W.mg_of X G a8) b8 B EX G6 G3 sem_field_moved
  have G9 := ok_L_cell (P := l.prog) (w := w) (base := base) F9 (PySem.W.mg_of X G a9) b9 B EX sem_L_cell
  have G10 := ok_L_side (P := l.prog) (w := w) (base := base) F10 (PySem.W.mg_of X G a10) b10 B EX sem_L_side
  have G11 := ok_L_half (P := l.prog) (w := w) (base := base) F11 (PySem.W.mg_of X G a11) b11 B EX G10 sem_L_half
  have G12 := ok_L_corners (P := l.prog) (w := w) (base := base) F12 (PySem.W.mg_of X G a12) b12 B EX G11 sem_L_corners
  have G13 := ok_L_great (P := l.prog) (w := w) (base := base) F13 (PySem.W.mg_of X G a13) b13 B EX sem_L_great
  have G14 := ok_L_land (P := l.prog) (w := w) (base := base) F14 (PySem.W.mg_of X G a14) b14 B EX G9 G13 sem_L_land
  have G15 := ok_L_moves (P := l.prog) (w := w) (base := base) F15 (PySem.W.mg_of X G a15) b15 B EX G13 G9 sem_L_moves
  have G16 := ok_L_no_field (P := l.prog) (w := w) (base := base) F16 (PySem.W.mg_of X G a16) b16 B EX G6 sem_L_no_field
  have G17 := ok_L_no_move (P := l.prog) (w := w) (base := base) F17 (PySem.W.mg_of X G a17) b17 B EX G8 sem_L_no_move
  exact law_fn (fn_law F18 B EX G14 G12 G16 G7 G6 G15 G17 G8 sem_law) S_law_of
end Py
open PySem PySem.W PyProof.Rows in
set_option maxRecDepth 100000 in
set_option maxHeartbeats 0 in
theorem PySem.Challenge.cw_stakefield_k10_refused_fields_holds : PySem.Challenge.rw_stakefield_k10_refused_fields.Holds := by
  w_on; o_law; k_head; (case hw => w_witness2)
  k_fill
  refine DL.walk_dl (l := PySem.Challenge.rw_stakefield_k10_refused_fields) (k := 7) ⟨rfl, by decide, by decide⟩ rfl rfl (fun w h Y => PySem.W.kIn_of Y) ?F
  case F =>
    intro w mg fa h KX G hmg
    refine' Py.all_mk KX G hmg ?a0 ?l0 ?c0 ?k0 ?a1 ?l1 ?c1 ?k1 ?a2 ?l2 ?c2 ?k2 ?a3 ?l3 ?c3 ?k3 ?a4 ?l4 ?c4 ?k4 ?a5 ?l5 ?c5 ?k5 ?a6 ?l6 ?c6 ?k6 ?a7 ?l7 ?c7 ?k7 ?a8 ?l8 ?c8 ?k8 ?a9 ?l9 ?c9 ?k9 ?a10 ?l10 ?c10 ?k10 ?a11 ?l11 ?c11 ?k11 ?a12 ?l12 ?c12 ?k12 ?a13 ?l13 ?c13 ?k13 ?a14 ?l14 ?c14 ?k14 ?a15 ?l15 ?c15 ?k15 ?a16 ?l16 ?c16 ?k16 ?a17 ?l17 ?c17 ?k17 ?a18 ?l18 ?c18 ?k18 ?zabs_ ?zbool_ ?zint_ ?zisinstance_ ?zlen_ ?zlist_ ?zmax_ ?zmin_ ?zrange_ ?zreversed_ ?zset_ ?zsorted_ ?ztuple_ ?ea0 ?ek0 ?ea1 ?ex1 ?eb1 ?et1 ?ek1 ?ei1 ?ej1 ?eh1 ?ec1 ?em1 ?ea2 ?ek2 ?ea3 ?ex3 ?eb3 ?et3 ?ek3 ?ei3 ?ej3 ?eh3 ?ec3 ?em3 ?ea4 ?ek4 ?ea5 ?ek5 ?ea6 ?ek6 ?ea7 ?ek7 ?ea8 ?ek8 ?ea9 ?ek9 ?ea10 ?ea11 ?ek11 ?ea12 ?ek12 ?en ?eo ?zve ?m1_10 ?m3_10 ?i1_0 ?i3_0 ?i1_1 ?i3_1 ?i1_2 ?i3_2 ?i1_3 ?i3_3 ?i1_4 ?i3_4 ?i1_5 ?i3_5 ?i1_6 ?i3_6 ?i1_7 ?i3_7 ?i1_8 ?i3_8 ?i1_9 ?i3_9 ?i1_11 ?i3_11 ?i1_12 ?i3_12 ?iv1 ?iv3
    (case a0 => k_is)
    (case l0 => k_is)
    (case c0 => k_is)
    (case k0 => k_is)
    (case a1 => k_is)
    (case l1 => k_is)
    (case c1 => k_is)
    (case k1 => k_is)
    (case a2 => k_is)
    (case l2 => k_is)
    (case c2 => k_is)
    (case k2 => k_is)
    (case a3 => k_is)
    (case l3 => k_is)
    (case c3 => k_is)
    (case k3 => k_is)
    (case a4 => k_is)
    (case l4 => k_is)
    (case c4 => k_is)
    (case k4 => k_is)
    (case a5 => k_is)
    (case l5 => k_is)
    (case c5 => k_is)
    (case k5 => k_is)
    (case a6 => k_is)
    (case l6 => k_is)
    (case c6 => k_is)
    (case k6 => k_is)
    (case a7 => k_is)
    (case l7 => k_is)
    (case c7 => k_is)
    (case k7 => k_is)
    (case a8 => k_is)
    (case l8 => k_is)
    (case c8 => k_is)
    (case k8 => k_is)
    (case a9 => k_is)
    (case l9 => k_is)
    (case c9 => k_is)
    (case k9 => k_is)
    (case a10 => k_is)
    (case l10 => k_is)
    (case c10 => k_is)
    (case k10 => k_is)
    (case a11 => k_is)
    (case l11 => k_is)
    (case c11 => k_is)
    (case k11 => k_is)
    (case a12 => k_is)
    (case l12 => k_is)
    (case c12 => k_is)
    (case k12 => k_is)
    (case a13 => k_is)
    (case l13 => k_is)
    (case c13 => k_is)
    (case k13 => k_is)
    (case a14 => k_is)
    (case l14 => k_is)
    (case c14 => k_is)
    (case k14 => k_is)
    (case a15 => k_is)
    (case l15 => k_is)
    (case c15 => k_is)
    (case k15 => k_is)
    (case a16 => k_is)
    (case l16 => k_is)
    (case c16 => k_is)
    (case k16 => k_is)
    (case a17 => k_is)
    (case l17 => k_is)
    (case c17 => k_is)
    (case k17 => k_is)
    (case a18 => k_is)
    (case l18 => k_is)
    (case c18 => k_is)
    (case k18 => k_is)
    (case zabs_ => k_is)
    (case zbool_ => k_is)
    (case zint_ => k_is)
    (case zisinstance_ => k_is)
    (case zlen_ => k_is)
    (case zlist_ => k_is)
    (case zmax_ => k_is)
    (case zmin_ => k_is)
    (case zrange_ => k_is)
    (case zreversed_ => k_is)
    (case zset_ => k_is)
    (case zsorted_ => k_is)
    (case ztuple_ => k_is)
    (case ea0 => k_is)
    (case ek0 => k_is)
    (case ea1 => k_is)
    (case ex1 => k_exc)
    (case eb1 => k_is)
    (case et1 => k_is)
    (case ek1 => k_is)
    (case ei1 => k_is)
    (case ej1 => k_is)
    (case eh1 => k_is)
    (case ec1 => k_is)
    (case em1 => k_is)
    (case ea2 => k_is)
    (case ek2 => k_is)
    (case ea3 => k_is)
    (case ex3 => k_exc)
    (case eb3 => k_is)
    (case et3 => k_is)
    (case ek3 => k_is)
    (case ei3 => k_is)
    (case ej3 => k_is)
    (case eh3 => k_is)
    (case ec3 => k_is)
    (case em3 => k_is)
    (case ea4 => k_is)
    (case ek4 => k_is)
    (case ea5 => k_is)
    (case ek5 => k_is)
    (case ea6 => k_is)
    (case ek6 => k_is)
    (case ea7 => k_is)
    (case ek7 => k_is)
    (case ea8 => k_is)
    (case ek8 => k_is)
    (case ea9 => k_is)
    (case ek9 => k_is)
    (case ea10 => k_is)
    (case ea11 => k_is)
    (case ek11 => k_is)
    (case ea12 => k_is)
    (case ek12 => k_is)
    (case en => k_is)
    (case eo => k_is)
    (case zve => k_is)
    (case m1_10 => kts_exm)
    (case m3_10 => kts_exm)
    (case i1_0 => kit_is)
    (case i3_0 => kit_is)
    (case i1_1 => kit_is)
    (case i3_1 => kit_is)
    (case i1_2 => kit_is)
    (case i3_2 => kit_is)
    (case i1_3 => kit_is)
    (case i3_3 => kit_is)
    (case i1_4 => kit_is)
    (case i3_4 => kit_is)
    (case i1_5 => kit_is)
    (case i3_5 => kit_is)
    (case i1_6 => kit_is)
    (case i3_6 => kit_is)
    (case i1_7 => kit_is)
    (case i3_7 => kit_is)
    (case i1_8 => kit_is)
    (case i3_8 => kit_is)
    (case i1_9 => kit_is)
    (case i3_9 => kit_is)
    (case i1_11 => kit_is)
    (case i3_11 => kit_is)
    (case i1_12 => kit_is)
    (case i3_12 => kit_is)
    (case iv1 => kit_is)
    (case iv3 => kit_is)
#print axioms PySem.Challenge.cw_stakefield_k10_refused_fields_holds
