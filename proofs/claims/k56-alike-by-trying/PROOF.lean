import PyProof.Rows.All
import Wide.All
import OpenK.AllK
import Wide.FinOn
import HandS.ForMost
import HandS.ForExc
import HandS.CallSlots
import HandS.EndBits
import HandS.Wide
import HandS.Style
import HandS.TupLe
import KE.KDictKeyed
import HandS.TupAny
import HandS.TryOnly
import HandS.IsInst
import HandS.Deep
import HandS.WideBits
import HandS.ExcIs
import HandS.Rev
import HandS.Zip
import KE.DataMinMax
import KE.SortData
import HandS.TupSets
import HandS.TupMul
import HandS.Defaults
import KE.RegKIsAll
import KE.RegKTryMore
import HandS.Iter
import PyProof.LongRange
import PySem.Challenge.RW_stakefield_k56_alike_by_trying
set_option Elab.async false
set_option linter.all false
set_option autoImplicit false
set_option maxRecDepth 100000
set_option exponentiation.threshold 3000000
set_option maxHeartbeats 1000000
/-! The data layer: what an expression or a statement does, told over data (Dat) and slots (Sl) alone. -/
namespace DL
open PySem PySem.Spec PyProof.Rows L2
variable {K : PySem.W.Frag}

inductive Dat where
  | non | bl (b : Bool) | int (i : Int) | str (x : Str) | tup (ds : List Dat) | lst (ds : List Dat) | dic (kvs : List (Key × V))

mutual
def RdD (K : PySem.W.Frag) (G : Hp) : Dat → V → Prop
  | .non, v => v = .non
  | .bl b, v => v = .bl b
  | .int i, v => v = .int i
  | .str x, v => v = .str x
  | .tup ds, v => ∃ a vs, v = .ref a ∧ G a = some (.tup vs) ∧ RdL K G ds vs
  | .lst ds, v => ∃ a vs, v = .ref a ∧ SqL K G a vs ∧ RdL K G ds vs
  | .dic kvs, v => ∃ a, v = .ref a ∧ G a = some (.dK kvs)
def RdL (K : PySem.W.Frag) (G : Hp) : List Dat → List V → Prop
  | [], vs => vs = []
  | d :: ds, vs => ∃ v r, vs = v :: r ∧ RdD K G d v ∧ RdL K G ds r
end

theorem rd_mono {G G' : Hp} {a : Addr} {vs : List V} (s : Same G G') (h : SqL K G a vs) : SqL K G' a vs := s.seq h
theorem sq_of {G : Hp} {a : Addr} {vs : List V} (h : G a = some (.lst vs)) : SqL K G a vs := .inl (.inl h)
mutual
theorem RdD.mono {G G' : Hp} (s : Same G G') : ∀ (d : Dat) (v : V), RdD K G d v → RdD K G' d v
  | .non, _, h => h
  | .bl _, _, h => h
  | .int _, _, h => h
  | .str _, _, h => h
  | .tup ds, v, h => by
    unfold RdD at h ⊢
    obtain ⟨a, vs, e, g, r⟩ := h
    exact ⟨a, vs, e, s _ _ g, RdL.mono s ds vs r⟩
  | .lst ds, v, h => by
    unfold RdD at h ⊢
    obtain ⟨a, vs, e, g, r⟩ := h
    exact ⟨a, vs, e, rd_mono s g, RdL.mono s ds vs r⟩
  | .dic kvs, v, h => by
    unfold RdD at h ⊢
    obtain ⟨a, e, g⟩ := h
    exact ⟨a, e, s _ _ g⟩
theorem RdL.mono {G G' : Hp} (s : Same G G') : ∀ (ds : List Dat) (vs : List V), RdL K G ds vs → RdL K G' ds vs
  | [], _, h => h
  | d :: ds, vs, h => by
    unfold RdL at h ⊢
    obtain ⟨v, r, e, h1, h2⟩ := h
    exact ⟨v, r, e, RdD.mono s d v h1, RdL.mono s ds r h2⟩
end
theorem RdL.nil {G : Hp} : RdL K G [] [] := by unfold RdL; rfl
theorem RdL.cons {G : Hp} {d : Dat} {v : V} {ds : List Dat} {vs : List V} (h : RdD K G d v) (t : RdL K G ds vs) : RdL K G (d :: ds) (v :: vs) := by
  unfold RdL; exact ⟨v, vs, rfl, h, t⟩
theorem RdL.len {G : Hp} : ∀ {ds : List Dat} {vs : List V}, RdL K G ds vs → ds.length = vs.length
  | [], vs, h => by
    unfold RdL at h; rw [h]; rfl
  | d :: ds, vs, h => by
    unfold RdL at h
    obtain ⟨v, r, e, _, h2⟩ := h
    rw [e, List.length_cons, List.length_cons, RdL.len h2]
theorem RdL.get {G : Hp} : ∀ {ds : List Dat} {vs : List V} {i : Nat} {d : Dat}, RdL K G ds vs → ds[i]? = some d → ∃ v, vs[i]? = some v ∧ RdD K G d v
  | [], _, _, _, _, e => by simp at e
  | d :: ds, vs, i, x, h, e => by
    unfold RdL at h
    obtain ⟨v, r, rfl, h1, h2⟩ := h
    cases i with
    | zero => simp at e; subst e; exact ⟨v, rfl, h1⟩
    | succ i => simpa using RdL.get h2 (by simpa using e)
theorem RdL.getV {G : Hp} : ∀ {ds : List Dat} {vs : List V} {i : Nat} {v : V}, RdL K G ds vs → vs[i]? = some v → ∃ d, ds[i]? = some d ∧ RdD K G d v
  | [], vs, _, _, h, e => by unfold RdL at h; subst h; simp at e
  | d :: ds, vs, i, x, h, e => by
    unfold RdL at h
    obtain ⟨v, r, rfl, h1, h2⟩ := h
    cases i with
    | zero => simp at e; subst e; exact ⟨d, rfl, h1⟩
    | succ i => simpa using RdL.getV h2 (by simpa using e)
theorem RdL.append {G : Hp} : ∀ {ds es : List Dat} {vs ws : List V}, RdL K G ds vs → RdL K G es ws → RdL K G (ds ++ es) (vs ++ ws)
  | [], _, vs, _, h, k => by unfold RdL at h; subst h; exact k
  | d :: ds, es, vs, ws, h, k => by
    unfold RdL at h
    obtain ⟨v, r, rfl, h1, h2⟩ := h
    exact RdL.cons h1 (RdL.append h2 k)
theorem RdL.take {G : Hp} : ∀ {ds : List Dat} {vs : List V} (n : Nat), RdL K G ds vs → RdL K G (ds.take n) (vs.take n)
  | [], vs, n, h => by unfold RdL at h; subst h; simpa using RdL.nil
  | d :: ds, vs, 0, h => by simpa using RdL.nil
  | d :: ds, vs, n + 1, h => by
    unfold RdL at h
    obtain ⟨v, r, rfl, h1, h2⟩ := h
    simpa using RdL.cons h1 (RdL.take n h2)
theorem RdL.drop {G : Hp} : ∀ {ds : List Dat} {vs : List V} (n : Nat), RdL K G ds vs → RdL K G (ds.drop n) (vs.drop n)
  | [], vs, n, h => by unfold RdL at h; subst h; simpa using RdL.nil
  | d :: ds, vs, 0, h => by simpa using h
  | d :: ds, vs, n + 1, h => by
    unfold RdL at h
    obtain ⟨v, r, rfl, h1, h2⟩ := h
    simpa using RdL.drop n h2
theorem RdL.dropLast {G : Hp} {ds : List Dat} {vs : List V} (h : RdL K G ds vs) : RdL K G ds.dropLast vs.dropLast := by
  rw [List.dropLast_eq_take, List.dropLast_eq_take, h.len]
  exact h.take _
theorem RdL.reverse {G : Hp} : ∀ {ds : List Dat} {vs : List V}, RdL K G ds vs → RdL K G ds.reverse vs.reverse
  | [], vs, h => by unfold RdL at h; subst h; exact RdL.nil
  | d :: ds, vs, h => by
    unfold RdL at h
    obtain ⟨v, r, rfl, h1, h2⟩ := h
    rw [List.reverse_cons, List.reverse_cons]
    exact RdL.append (RdL.reverse h2) (RdL.cons h1 RdL.nil)
theorem RdL.set {G : Hp} : ∀ {ds : List Dat} {vs : List V} (n : Nat) {d : Dat} {v : V}, RdL K G ds vs → RdD K G d v → RdL K G (ds.set n d) (vs.set n v)
  | [], vs, n, _, _, h, _ => by unfold RdL at h; subst h; simpa using RdL.nil
  | d :: ds, vs, n, x, w, h, k => by
    unfold RdL at h
    obtain ⟨v, r, rfl, h1, h2⟩ := h
    cases n with
    | zero => simpa using RdL.cons k h2
    | succ n => simpa using RdL.cons h1 (RdL.set n h2 k)
theorem RdL.ints {G : Hp} : ∀ (ns : List Int), RdL K G (ns.map Dat.int) (ns.map V.int)
  | [] => RdL.nil
  | n :: ns => RdL.cons (by unfold RdD; rfl) (RdL.ints ns)

/-- the tracked heap and the part that stays grow; what is new there is fresh -/
structure Ext (H G H' G' : Hp) : Prop where
  h : Same H H'
  g : Same G G'
  s : Same G' H'
  f : ∀ a, H a ≠ none → G a = none → G' a = none
theorem Ext.refl {H G : Hp} (s : Same G H) : Ext H G H G := ⟨Same.refl _, Same.refl _, s, fun _ _ h => h⟩
theorem Ext.trans {H G H1 G1 H2 G2 : Hp} (a : Ext H G H1 G1) (b : Ext H1 G1 H2 G2) : Ext H G H2 G2 :=
  ⟨a.h.trans b.h, a.g.trans b.g, b.s, fun x hx hg => b.f x (fun z => hx (a.h.free z)) (a.f x hx hg)⟩
theorem same_upd {H : Hp} {a : Addr} {o : HO} (n : H a = none) : Same H (upd H a o) := fun b u e => by rw [upd_ne (ne_of_none e n)]; exact e
theorem same_upd2 {G H : Hp} {a : Addr} {o : HO} (s : Same G H) (e : H a = some o) : Same (upd G a o) H := fun b u h => by
  by_cases hb : b = a
  · subst hb; rw [upd_same] at h; rw [← h]; exact e
  · rw [upd_ne hb] at h; exact s _ _ h
/-- a new object, put into the part that stays -/
theorem Ext.newG {H G : Hp} {p : Addr} {o : HO} (s : Same G H) (n : H p = none) : Ext H G (upd H p o) (upd G p o) := by
  refine ⟨same_upd n, same_upd (s.free n), fun b u h => ?_, fun a ha hg => ?_⟩
  · by_cases hb : b = p
    · subst hb; rw [upd_same] at h ⊢; exact h
    · rw [upd_ne hb] at h ⊢; exact s _ _ h
  · have : a ≠ p := fun e => ha (by rw [e]; exact n)
    rw [upd_ne this]; exact hg
/-- a new object that is held apart -/
theorem Ext.newH {H G : Hp} {p : Addr} {o : HO} (s : Same G H) (n : H p = none) : Ext H G (upd H p o) G :=
  ⟨same_upd n, Same.refl _, s.trans (same_upd n), fun _ _ h => h⟩
/-- an object that was made since is put into the part that stays -/
theorem Ext.put {H G H' G' : Hp} {p : Addr} {o : HO} (x : Ext H G H' G') (n : H p = none) (e : H' p = some o) (g : G' p = none) : Ext H G H' (upd G' p o) ∧ Same G' (upd G' p o) := by
  refine ⟨⟨x.h, x.g.trans (same_upd g), same_upd2 x.s e, fun a ha hg => ?_⟩, same_upd g⟩
  have : a ≠ p := fun z => ha (by rw [z]; exact n)
  rw [upd_ne this]; exact x.f a ha hg

inductive Sl where
  | un | fz (d : Dat) | ow (ds : List Dat) | br (ds : List Dat) | adr (a : Addr) | dc (a : Addr) (kvs : List (Dat × V))
/-! own dicts: their keys are tuples of ints, and of such tuples -/
mutual
def nkD : Dat → NestedKey
  | .non => .none
  | .bl b => .num (if b = true then 1 else 0)
  | .int i => .num i
  | .str x => .text x
  | .tup ds => .tup (nkL ds)
  | .lst _ => .none
  | .dic _ => .none
def nkL : List Dat → List NestedKey
  | [] => []
  | d :: ds => nkD d :: nkL ds
end
mutual
def kOk : Nat → Dat → Bool
  | _, .int _ => true
  | n + 1, .tup ds => kOkL n ds
  | _, _ => false
def kOkL : Nat → List Dat → Bool
  | _, [] => true
  | n, d :: ds => kOk n d && kOkL n ds
end
/-- the dict at a, its object's entries being es -/
def rawO (a : Addr) (es : Array DictEntry) : HO := .ext fun h => ∃ o ep, h.get? a = some o ∧ o.ExactDict ∧ o.data = .dict es ep
def DcK (K : PySem.W.Frag) (G : Hp) (p : Dat × V) (x : NestedKey × Addr × Value) : Prop := nkD p.1 = x.1 ∧ kOk 6 p.1 = true ∧ RdD K G p.1 (.ref x.2.1) ∧ RelV p.2 x.2.2
def DcR (K : PySem.W.Frag) (G H : Hp) (a : Addr) (kvs : List (Dat × V)) : Prop :=
  ∃ (xs : List (NestedKey × Addr × Value)) (es : Array DictEntry), H a = some (rawO a es) ∧ (∀ w : World, es.toList = xs.map fun x => ⟨x.1.hash w, .ref x.2.1, x.2.2⟩) ∧ Paired (DcK K G) kvs xs ∧ (xs.map (·.1)).Nodup ∧ xs.length ≤ sizeLine ∧ (a == sysModules) = false
/-- what an expression gives: data; a new list; a list that stands (the caller's; one's own) -/
inductive Rv where
  | v (x : Dat) | n (ds : List Dat) | b (ds : List Dat) | o (ds : List Dat)
def Rv.dat : Rv → Dat
  | .v x => x
  | .n ds => .lst ds
  | .b ds => .lst ds
  | .o ds => .lst ds

/-- what may be handed back -/
def retOk : Rv → Bool
  | .o _ => false
  | .b _ => false
  | _ => true
def SlR (K : PySem.W.Frag) (H0 G H : Hp) : Sl → Option (Option V) → Prop
  | .un, _ => True
  | .fz d, o => ∃ v, o = some (some v) ∧ RdD K G d v
  | .ow ds, o => ∃ l vs, o = some (some (.ref l)) ∧ H l = some (.lst vs) ∧ RdL K G ds vs ∧ G l = none ∧ H0 l = none
  | .br ds, o => ∃ l vs, o = some (some (.ref l)) ∧ SqL K H0 l vs ∧ RdL K G ds vs
  | .adr a, o => o = some (some (.ref a))
  | .dc a kvs, o => o = some (some (.ref a)) ∧ DcR K G H a kvs ∧ G a = none ∧ H0 a = none
theorem DcR.mono {K : PySem.W.Frag} {G G' H H' : Hp} {a : Addr} {kvs : List (Dat × V)} (x : DcR K G H a kvs) (g : Same G G') (h : ∀ o, H a = some o → H' a = some o) : DcR K G' H' a kvs := by
  obtain ⟨xs, es, e1, e2, e3, e4⟩ := x
  exact ⟨xs, es, h _ e1, e2, L2.Paired.mapP e3 fun p x z => ⟨z.1, z.2.1, RdD.mono g _ _ z.2.2.1, z.2.2.2⟩, e4⟩
theorem DcR.at {K : PySem.W.Frag} {G H : Hp} {a : Addr} {kvs : List (Dat × V)} (x : DcR K G H a kvs) : ∃ es, H a = some (rawO a es) := let ⟨_, es, e, _⟩ := x; ⟨es, e⟩
structure Rel (K : PySem.W.Frag) (H0 G0 G : Hp) (ρ : List Sl) (σ : L2.St) (H : Hp) : Prop where
  ext : Ext H0 G0 H G
  len : ρ.length = σ.length
  sl : ∀ (i : Nat) (s : Sl), ρ[i]? = some s → SlR K H0 G H s σ[i]?
  inj : ∀ (i j : Nat) (ds es : List Dat) (l : Addr), ρ[i]? = some (.ow ds) → ρ[j]? = some (.ow es) → σ[i]? = some (some (.ref l)) → σ[j]? = some (some (.ref l)) → i = j
def RvR (K : PySem.W.Frag) (H0 G H H' : Hp) : Rv → V → Prop
  | .v x, v => RdD K G x v
  | .n ds, v => ∃ l vs, v = .ref l ∧ H' l = some (.lst vs) ∧ RdL K G ds vs ∧ H l = none ∧ G l = none
  | .b ds, v => ∃ l vs, v = .ref l ∧ SqL K H0 l vs ∧ RdL K G ds vs
  | .o ds, v => ∃ l vs, v = .ref l ∧ H' l = some (.lst vs) ∧ RdL K G ds vs
theorem RvR.back {H0 G H H1 H' : Hp} {r : Rv} {v : V} (s : Same H H1) (h : RvR K H0 G H1 H' r v) : RvR K H0 G H H' r v := by
  cases r with
  | v x => exact h
  | n ds => obtain ⟨l, vs, a, b, c, d, e⟩ := h; exact ⟨l, vs, a, b, c, s.free d, e⟩
  | b ds => exact h
  | o ds => exact h
theorem RvR.on {H0 G H H1 G' H2 : Hp} {r : Rv} {v : V} (x : Ext H1 G H2 G') (h : RvR K H0 G H H1 r v) : RvR K H0 G' H H2 r v := by
  cases r with
  | v d => exact RdD.mono x.g _ _ h
  | n ds =>
    obtain ⟨l, vs, a, b, c, d, e⟩ := h
    exact ⟨l, vs, a, x.h _ _ b, c.mono x.g, d, x.f l (by rw [b]; exact fun z => nomatch z) e⟩
  | b ds => obtain ⟨l, vs, a, b, c⟩ := h; exact ⟨l, vs, a, b, c.mono x.g⟩
  | o ds => obtain ⟨l, vs, a, b, c⟩ := h; exact ⟨l, vs, a, x.h _ _ b, c.mono x.g⟩
/-- as data of the whole heap -/
theorem RvR.read {H0 G H H' : Hp} {r : Rv} {v : V} (s : Same G H') (s0 : Same H0 H') (h : RvR K H0 G H H' r v) : RdD K H' r.dat v := by
  cases r with
  | v d => exact RdD.mono s _ _ h
  | n ds => obtain ⟨l, vs, a, b, c, d, e⟩ := h; show RdD K H' (.lst ds) v; unfold RdD; exact ⟨l, vs, a, sq_of b, c.mono s⟩
  | b ds => obtain ⟨l, vs, a, b, c⟩ := h; show RdD K H' (.lst ds) v; unfold RdD; exact ⟨l, vs, a, rd_mono s0 b, c.mono s⟩
  | o ds => obtain ⟨l, vs, a, b, c⟩ := h; show RdD K H' (.lst ds) v; unfold RdD; exact ⟨l, vs, a, sq_of b, c.mono s⟩
/-- a list, whichever: where it stands, its items in the part that stays -/
theorem RvR.lst {H0 G H H' : Hp} {r : Rv} {v : V} {ds : List Dat} (s : Same G H') (s0 : Same H0 H') (h : RvR K H0 G H H' r v) (e : r.dat = .lst ds) : ∃ l vs, v = .ref l ∧ SqL K H' l vs ∧ RdL K G ds vs := by
  cases r with
  | v d =>
    have e : d = .lst ds := e
    subst e
    have h : RdD _ G (.lst ds) v := h
    unfold RdD at h
    obtain ⟨l, vs, a, b, c⟩ := h
    exact ⟨l, vs, a, rd_mono s b, c⟩
  | n es => obtain ⟨l, vs, a, b, c, d, f⟩ := h; injection e with e; subst e; exact ⟨l, vs, a, sq_of b, c⟩
  | b es => obtain ⟨l, vs, a, b, c⟩ := h; injection e with e; subst e; exact ⟨l, vs, a, rd_mono s0 b, c⟩
  | o es => obtain ⟨l, vs, a, b, c⟩ := h; injection e with e; subst e; exact ⟨l, vs, a, sq_of b, c⟩
theorem Rel.on {H0 G0 G G' H H' : Hp} {ρ : List Sl} {σ : L2.St} (R : Rel K H0 G0 G ρ σ H) (x : Ext H G H' G') : Rel K H0 G0 G' ρ σ H' := by
  refine ⟨R.ext.trans x, R.len, fun i s e => ?_, R.inj⟩
  have h := R.sl i s e
  cases s with
  | un => trivial
  | fz d => obtain ⟨v, a, b⟩ := h; exact ⟨v, a, RdD.mono x.g _ _ b⟩
  | ow ds =>
    obtain ⟨l, vs, a, b, c, d, e⟩ := h
    exact ⟨l, vs, a, x.h _ _ b, c.mono x.g, x.f l (by rw [b]; exact fun z => nomatch z) d, e⟩
  | br ds => obtain ⟨l, vs, a, b, c⟩ := h; exact ⟨l, vs, a, b, c.mono x.g⟩
  | adr a => exact h
  | dc a kvs =>
    obtain ⟨e1, e2, e3, e4⟩ := h
    obtain ⟨es, ea⟩ := e2.at
    exact ⟨e1, e2.mono x.g fun o => x.h _ _, x.f a (by rw [ea]; exact fun z => nomatch z) e3, e4⟩

/-! ### judgements -/
abbrev DE := List Sl → (Rv → Prop) → (Str → Prop) → Prop
abbrev DA := List Sl → (List Rv → Prop) → (Str → Prop) → Prop
abbrev DT := List Sl → (Bool → Prop) → (Str → Prop) → Prop
structure DEnds where
  nx : List Sl → Prop
  rt : Rv → Prop
  bk : List Sl → Prop
  ct : List Sl → Prop
  ex : Str → List Sl → Prop
abbrev DS := DEnds → List Sl → Prop

abbrev MG := Str → Option Value
/-- what is wished of an exception -/
def XOk (mg : MG) (W : WX) (H G : Hp) (σ : L2.St) (ε : Str → Prop) : Prop := ∀ nm cls H' G', Ext H G H' G' → mg nm = some cls → ε nm → W cls none σ H'
theorem XOk.on {mg : MG} {W : WX} {H G H1 G1 : Hp} {σ : L2.St} {ε : Str → Prop} (x : XOk mg W H G σ ε) (e : Ext H G H1 G1) : XOk mg W H1 G1 σ ε :=
  fun nm cls H' G' e' h k => x nm cls H' G' (e.trans e') h k
def EOk (K : PySem.W.Frag) (mg : MG) (W : WX) (t : TE) (δ : DE) : Prop := ∀ H0 G0 G ρ σ H (Q : VK) κ ε, Rel K H0 G0 G ρ σ H → δ ρ κ ε →
  (∀ v H' G' r, Ext H G H' G' → RvR K H0 G' H H' r v → κ r → Q v H') → XOk mg W H G σ ε → t σ H Q
def TOk (K : PySem.W.Frag) (mg : MG) (W : WX) (t : TT) (δ : DT) : Prop := ∀ H0 G0 G ρ σ H (Q : Bool → Hp → Prop) κ ε, Rel K H0 G0 G ρ σ H → δ ρ κ ε →
  (∀ b H' G', Ext H G H' G' → κ b → Q b H') → XOk mg W H G σ ε → t σ H Q
def RvsR (K : PySem.W.Frag) (H0 G H H' : Hp) : List Rv → List V → Prop
  | [], vs => vs = []
  | r :: rs, vs => ∃ v w, vs = v :: w ∧ RvR K H0 G H H' r v ∧ RvsR K H0 G H H' rs w
def AOk (K : PySem.W.Frag) (mg : MG) (W : WX) (t : TA) (δ : DA) : Prop := ∀ H0 G0 G ρ σ H (Q : List V → Hp → Prop) κ ε, Rel K H0 G0 G ρ σ H → δ ρ κ ε →
  (∀ vs H' G' rs, Ext H G H' G' → RvsR K H0 G' H H' rs vs → κ rs → Q vs H') → XOk mg W H G σ ε → t σ H Q
structure EndsOk (K : PySem.W.Frag) (mg : MG) (W : WX) (H0 G0 : Hp) (D : Ends) (κ : DEnds) : Prop where
  nx : ∀ ρ σ H G, Rel K H0 G0 G ρ σ H → κ.nx ρ → D.nx σ H
  bk : ∀ ρ σ H G, Rel K H0 G0 G ρ σ H → κ.bk ρ → D.bk σ H
  ct : ∀ ρ σ H G, Rel K H0 G0 G ρ σ H → κ.ct ρ → D.ct σ H
  rt : ∀ v H G r, Ext H0 G0 H G → RvR K H0 G H0 H r v → retOk r = true → κ.rt r → D.rt v H
  ex : ∀ nm cls ρ σ H G, Rel K H0 G0 G ρ σ H → mg nm = some cls → κ.ex nm ρ → W cls none σ H
def SOk (K : PySem.W.Frag) (mg : MG) (W : WX) (t : TS) (δ : DS) : Prop := ∀ H0 G0 G ρ σ H (D : Ends) κ, Rel K H0 G0 G ρ σ H → δ κ ρ → EndsOk K mg W H0 G0 D κ → t D σ H
/-- the wish of exceptions at an expression of a statement -/
theorem EndsOk.xok {mg : MG} {W : WX} {H0 G0 G H : Hp} {ρ : List Sl} {σ : L2.St} {D : Ends} {κ : DEnds} (E : EndsOk K mg W H0 G0 D κ) (R : Rel K H0 G0 G ρ σ H) : XOk mg W H G σ (fun nm => κ.ex nm ρ) :=
  fun nm cls H' G' x h k => E.ex nm cls ρ σ H' G' (R.on x) h k

structure ME (X : Cx) (W : WX) (e : Expr) (δ : DE) : Prop where
  ex : ∃ t, PE X e t ∧ EOk X.K X.mg W t δ
structure MT (X : Cx) (W : WX) (e : Expr) (δ : DT) : Prop where
  ex : ∃ t, PT X e t ∧ TOk X.K X.mg W t δ
structure MA (X : Cx) (W : WX) (es : List Expr) (δ : DA) : Prop where
  ex : ∃ t, PA X es t ∧ AOk X.K X.mg W t δ
structure MS (X : Cx) (W : WX) (s : Stmt) (δ : DS) : Prop where
  ex : ∃ t, PS X s t ∧ SOk X.K X.mg W t δ
structure MSs (X : Cx) (W : WX) (s : List Stmt) (δ : DS) : Prop where
  ex : ∃ t, PSs X s t ∧ SOk X.K X.mg W t δ
end DL
namespace DL
open PySem PySem.Spec PyProof.Rows L2
variable {K : PySem.W.Frag}

/-! ### combinators -/
def dVar (i : Nat) : DE := fun ρ κ _ => match ρ[i]? with
  | some (.fz d) => κ (.v d)
  | some (.ow ds) => κ (.o ds)
  | some (.br ds) => κ (.b ds)
  | _ => False
def dC (d : Dat) : DE := fun _ κ _ => κ (.v d)
/-- two in a row, then what is made of both -/
def dBin (k : Rv → Rv → (Rv → Prop) → (Str → Prop) → Prop) (a b : DE) : DE := fun ρ κ ε => a ρ (fun x => b ρ (fun y => k x y κ ε) ε) ε
def dUn (k : Rv → (Rv → Prop) → (Str → Prop) → Prop) (a : DE) : DE := fun ρ κ ε => a ρ (fun x => k x κ ε) ε
def asI (r : Rv) (k : Int → Prop) : Prop := match r with
  | .v (.int i) => k i
  | _ => False
def asB (r : Rv) (k : Bool → Prop) : Prop := match r with
  | .v (.bl i) => k i
  | _ => False
def asL (r : Rv) (k : List Dat → Prop) : Prop := match r.dat with
  | .lst ds => k ds
  | _ => False
/-- list or tuple -/
def asQ (r : Rv) (k : List Dat → Prop) : Prop := match r.dat with
  | .lst ds => k ds
  | .tup ds => k ds
  | _ => False
/-- of a thing that must be there -/
inductive onS {α : Type} (o : Option α) (k : α → Prop) : Prop where
  | mk (x : α) (e : o = some x) (h : k x) : onS o k
theorem onS_some {α : Type} {o : Option α} {x : α} {k : α → Prop} (e : o = some x) (h : k x) : onS o k := .mk x e h
theorem onS.of {α : Type} {o : Option α} {k : α → Prop} (h : onS o k) : ∃ x, o = some x ∧ k x := by
  cases h with
  | mk x e h => exact ⟨x, e, h⟩
theorem asI.of {r : Rv} {k : Int → Prop} (h : asI r k) : ∃ i, r = .v (.int i) ∧ k i := by
  unfold asI at h
  split at h
  · exact ⟨_, rfl, h⟩
  · exact h.elim
theorem asB.of {r : Rv} {k : Bool → Prop} (h : asB r k) : ∃ i, r = .v (.bl i) ∧ k i := by
  unfold asB at h
  split at h
  · exact ⟨_, rfl, h⟩
  · exact h.elim
theorem asL.of {r : Rv} {k : List Dat → Prop} (h : asL r k) : ∃ ds, r.dat = .lst ds ∧ k ds := by
  unfold asL at h
  split at h
  · rename_i e; exact ⟨_, e, h⟩
  · exact h.elim
theorem asQ.of {r : Rv} {k : List Dat → Prop} (h : asQ r k) : ∃ ds, (r.dat = .lst ds ∨ r.dat = .tup ds) ∧ k ds := by
  unfold asQ at h
  split at h
  · rename_i e; exact ⟨_, .inl e, h⟩
  · rename_i e; exact ⟨_, .inr e, h⟩
  · exact h.elim

/-- what an operation on two values does, over data -/
def Op2 (K : PySem.W.Frag) (r : R2) (k : Rv → Rv → (Rv → Prop) → (Str → Prop) → Prop) : Prop :=
  ∀ (H0 G Hs H : Hp) (x y : Rv) (v u : V) (Q : VK) (κ : Rv → Prop) (ε : Str → Prop), Same G H → Same H0 H → Same Hs H → RvR K H0 G Hs H x v → RvR K H0 G Hs H y u → k x y κ ε →
    (∀ w H' G' z, Ext H G H' G' → RvR K H0 G' H H' z w → κ z → Q w H') → r v u H Q
def Op1 (K : PySem.W.Frag) (r : V → Hp → VK → Prop) (k : Rv → (Rv → Prop) → (Str → Prop) → Prop) : Prop :=
  ∀ (H0 G Hs H : Hp) (x : Rv) (v : V) (Q : VK) (κ : Rv → Prop) (ε : Str → Prop), Same G H → Same H0 H → Same Hs H → RvR K H0 G Hs H x v → k x κ ε →
    (∀ w H' G' z, Ext H G H' G' → RvR K H0 G' H H' z w → κ z → Q w H') → r v H Q

section
variable {mg : MG} {W : WX} {ta tb : TE} {a b : DE}
theorem eok_bin {r : R2} {k : Rv → Rv → (Rv → Prop) → (Str → Prop) → Prop} (ha : EOk K mg W ta a) (hb : EOk K mg W tb b) (hr : Op2 K r k) : EOk K mg W (tOp r ta tb) (dBin k a b) := by
  intro H0 G0 G ρ σ H Q κ ε R h hq hx
  refine ha H0 G0 G ρ σ H _ _ ε R h (fun v H1 G1 x e1 r1 h1 => ?_) hx
  have R1 := R.on e1
  refine hb H0 G0 G1 ρ σ H1 _ _ ε R1 h1 (fun u H2 G2 y e2 r2 h2 => ?_) (hx.on e1)
  have R2 := R1.on e2
  have e := e1.trans e2
  refine hr H0 G2 H H2 x y v u Q κ ε e2.s R2.ext.h e.h (r1.on e2) (r2.back e1.h) h2 (fun w H' G' z e3 r3 h3 => ?_)
  exact hq w H' G' z (e.trans e3) (r3.back e.h) h3
theorem eok_un {r : V → Hp → VK → Prop} {k : Rv → (Rv → Prop) → (Str → Prop) → Prop} (ha : EOk K mg W ta a) (hr : Op1 K r k) : EOk K mg W (tUn r ta) (dUn k a) := by
  intro H0 G0 G ρ σ H Q κ ε R h hq hx
  refine ha H0 G0 G ρ σ H _ _ ε R h (fun v H1 G1 x e1 r1 h1 => ?_) hx
  have R1 := R.on e1
  refine hr H0 G1 H H1 x v Q κ ε e1.s R1.ext.h e1.h r1 h1 (fun w H' G' z e3 r3 h3 => ?_)
  exact hq w H' G' z (e1.trans e3) (r3.back e1.h) h3
theorem eok_var (i : Nat) : EOk K mg W (tVar i) (dVar i) := by
  intro H0 G0 G ρ σ H Q κ ε R h hq hx
  unfold dVar at h
  have x := Ext.refl R.ext.s
  split at h
  · rename_i d e
    obtain ⟨v, e1, e2⟩ := R.sl _ _ e
    exact ⟨v, e1, hq v H G (.v d) x e2 h⟩
  · rename_i d e
    obtain ⟨l, vs, e1, e2, e3, e4, e5⟩ := R.sl _ _ e
    exact ⟨.ref l, e1, hq _ H G (.o d) x ⟨l, vs, rfl, e2, e3⟩ h⟩
  · rename_i d e
    obtain ⟨l, vs, e1, e2, e3⟩ := R.sl _ _ e
    exact ⟨.ref l, e1, hq _ H G (.b d) x ⟨l, vs, rfl, e2, e3⟩ h⟩
  · exact h.elim
theorem eok_c {v : V} {d : Dat} (hd : ∀ G, RdD K G d v) : EOk K mg W (tC v) (dC d) := by
  intro H0 G0 G ρ σ H Q κ ε R h hq hx
  exact hq v H G (.v d) (Ext.refl R.ext.s) (hd G) h
end

section
variable {X : Cx} {W : WX} {a b c e : Expr} {da db dc : DE} {pos : Pos}
theorem me_var (i : Nat) {x : Str} (hN : X.N[i]? = some x := by rfl) (hv : Vis X.env.scope x := by first | exact Or.inl rfl | exact Or.inr (Or.inl rfl) | exact Or.inr (Or.inr rfl)) (hd : (x == ("__debug__" : Str)) = false := by decide)
    (hcd : (x == ("__classdict__" : Str)) = false := by decide) : ME X W (.Name x pos) (dVar i) := ⟨_, pe_var hN hv hd hcd, eok_var i⟩
theorem me_int {i : Int} {j : Nat} : ME X W (.Constant (.int i) j pos) (dC (.int i)) := ⟨_, pe_int, eok_c fun _ => by unfold RdD; rfl⟩
theorem me_bl {i : Bool} {j : Nat} : ME X W (.Constant (.bool i) j pos) (dC (.bl i)) := ⟨_, pe_bl, eok_c fun _ => by unfold RdD; rfl⟩
theorem me_non {j : Nat} : ME X W (.Constant .none j pos) (dC .non) := ⟨_, pe_non, eok_c fun _ => by unfold RdD; rfl⟩
theorem me_str {x : Str} {j : Nat} : ME X W (.Constant (.str x) j pos) (dC (.str x)) := ⟨_, pe_str, eok_c fun _ => by unfold RdD; rfl⟩
/-- a module's constant, an int -/
theorem me_glob {x : Str} {i : Int} {t : Tok} (hg : Gl X x) (hm : X.mg x = some (.int i t)) (hd : (x == ("__debug__" : Str)) = false := by decide) : ME X W (.Name x pos) (dC (.int i)) := ⟨_, pe_glob (v := .int i) hg hm ⟨t, rfl⟩ hd, eok_c fun _ => by unfold RdD; rfl⟩
theorem me_bin {op : Operator} {r : R2} {k : Rv → Rv → (Rv → Prop) → (Str → Prop) → Prop} (ho : OpR X (binaryOp op) r) (hr : Op2 X.K r k) (ha : ME X W a da) (hb : ME X W b db) : ME X W (.BinOp a op b pos) (dBin k da db) := by
  obtain ⟨ta, pa, oa⟩ := ha
  obtain ⟨tb, pb, ob⟩ := hb
  exact ⟨_, pe_op ho pa pb, eok_bin oa ob hr⟩
theorem me_un {op : UnaryOp} {r : V → Hp → VK → Prop} {k : Rv → (Rv → Prop) → (Str → Prop) → Prop} (ho : UnR X (unaryOp op) r) (hr : Op1 X.K r k) (ha : ME X W a da) : ME X W (.UnaryOp op a pos) (dUn k da) := by
  obtain ⟨ta, pa, oa⟩ := ha
  exact ⟨_, pe_un ho pa, eok_un oa hr⟩
theorem me_cmp {op : CmpOp} {r : R2} {k : Rv → Rv → (Rv → Prop) → (Str → Prop) → Prop} (ho : OpR X (compareOp op) r) (hr : Op2 X.K r k) (ha : ME X W a da) (hb : ME X W b db) (hm : behindInMarks op b = false) : ME X W (.Compare a [op] [b] pos) (dBin k da db) := by
  obtain ⟨ta, pa, oa⟩ := ha
  obtain ⟨tb, pb, ob⟩ := hb
  exact ⟨_, pe_cmpR ho pa pb hm, eok_bin oa ob hr⟩
end

/-! ### operations on ints -/
def kI (C : Int → Int → Prop) (g : Int → Int → Dat) : Rv → Rv → (Rv → Prop) → (Str → Prop) → Prop := fun x y κ _ => asI x fun i => asI y fun j => C i j ∧ κ (.v (g i j))
def kI0 (g : Int → Int → Dat) : Rv → Rv → (Rv → Prop) → (Str → Prop) → Prop := fun x y κ _ => asI x fun i => asI y fun j => κ (.v (g i j))
def kU (g : Int → Dat) : Rv → (Rv → Prop) → (Str → Prop) → Prop := fun x κ _ => asI x fun i => κ (.v (g i))
theorem op2_I {C : Int → Int → Prop} {g : Int → Int → V} {g' : Int → Int → Dat} (hg : ∀ i j G, RdD K G (g' i j) (g i j)) : Op2 K (rI C g) (kI C g') := by
  intro H0 G Hs H x y v u Q κ ε s s0 sh rx ry h q
  obtain ⟨i, rfl, h1⟩ := asI.of h
  obtain ⟨j, rfl, hc, hk⟩ := asI.of h1
  have rx : RdD K G (.int i) v := rx
  have ry : RdD K G (.int j) u := ry
  unfold RdD at rx ry
  exact ⟨i, j, rx, ry, hc, q _ H G (.v (g' i j)) (Ext.refl s) (hg i j G) hk⟩
theorem op2_I0 {g : Int → Int → V} {g' : Int → Int → Dat} (hg : ∀ i j G, RdD K G (g' i j) (g i j)) : Op2 K (rI0 g) (kI0 g') := by
  intro H0 G Hs H x y v u Q κ ε s s0 sh rx ry h q
  obtain ⟨i, rfl, h1⟩ := asI.of h
  obtain ⟨j, rfl, hk⟩ := asI.of h1
  have rx : RdD K G (.int i) v := rx
  have ry : RdD K G (.int j) u := ry
  unfold RdD at rx ry
  exact ⟨i, j, rx, ry, q _ H G (.v (g' i j)) (Ext.refl s) (hg i j G) hk⟩
theorem op1_U {g : Int → V} {g' : Int → Dat} (hg : ∀ i G, RdD K G (g' i) (g i)) : Op1 K (rU g) (kU g') := by
  intro H0 G Hs H x v Q κ ε s s0 sh rx h q
  obtain ⟨i, rfl, hk⟩ := asI.of h
  have rx : RdD K G (.int i) v := rx
  unfold RdD at rx
  exact ⟨i, rx, q _ H G (.v (g' i)) (Ext.refl s) (hg i G) hk⟩
/-- a number of at most so many bits -/
def Sz (k : Nat) (i : Int) : Prop := i.natAbs.log2 < k
def MulOk (i j : Int) : Prop := i.natAbs.log2 + j.natAbs.log2 < 100000000
theorem MulOk.ok {i j : Int} (h : MulOk i j) : IntMulOk i j := by
  have b : ∀ x : Int, Builtin.Int.intBits x ≤ x.natAbs.log2 + 1 := fun x => by
    unfold Builtin.Int.intBits
    split <;> omega
  unfold IntMulOk
  intro z
  rw [Bool.and_eq_true] at z
  obtain ⟨_, z⟩ := z
  unfold Builtin.Int.intTooBig at z
  have z := of_decide_eq_true z
  rw [show bitsLine = 134217728 by decide] at z
  unfold MulOk at h
  have p := b i
  have q := b j
  omega
def DivOk (_ j : Int) : Prop := j ≠ 0 ∧ j.natAbs.log2 < 9000
def DivP (_ j : Int) : Prop := 0 < j ∧ j.natAbs.log2 < 9000
def ModOk (_ j : Int) : Prop := j ≠ 0
def ModP (_ j : Int) : Prop := 0 < j
section
variable {X : Cx}
theorem op_mulD : OpR X (binaryOp .Mult) (rI MulOk fun i j => .int (i * j)) := opI fun _ _ _ _ _ _ _ hc q => mul_int q hc.ok
theorem op_fdivD : OpR X (binaryOp .FloorDiv) (rI DivOk fun i j => .int (i.fdiv j)) := opI fun _ _ _ _ _ _ _ hc q => floordiv_int hc.1 q (.inl (PyProof.noPylong_of_log2 hc.2))
theorem op_fdivP : OpR X (binaryOp .FloorDiv) (rI DivP fun i j => .int (i / j)) := opI fun i j _ _ _ _ _ hc q => by
  have p : 0 < j := hc.1
  refine floordiv_int (Int.ne_of_gt p) ?_ (.inl (PyProof.noPylong_of_log2 hc.2))
  rw [Int.fdiv_eq_ediv_of_nonneg i (Int.le_of_lt p)]; exact q
variable {W : WX} {a b : Expr} {da db : DE} {pos : Pos}
def dAdd := dBin (kI0 fun i j => .int (i + j))
def dSub := dBin (kI0 fun i j => .int (i - j))
def dMul := dBin (kI MulOk fun i j => .int (i * j))
def dDiv := dBin (kI DivOk fun i j => .int (i.fdiv j))
def dMod := dBin (kI ModOk fun i j => .int (i.fmod j))
def dDivP := dBin (kI DivP fun i j => .int (i / j))
def dModP := dBin (kI ModP fun i j => .int (i % j))
def dPow := dBin (kI CPow fun i j => .int (i ^ j.toNat))
def dLt := dBin (kI0 fun i j => .bl (decide (i < j)))
def dLe := dBin (kI0 fun i j => .bl (decide (i ≤ j)))
def dGt := dBin (kI0 fun i j => .bl (decide (j < i)))
def dGe := dBin (kI0 fun i j => .bl (decide (j ≤ i)))
def dEqI := dBin (kI0 fun i j => .bl (decide (i = j)))
def dNeI := dBin (kI0 fun i j => .bl (!decide (i = j)))
def dNeg := dUn (kU fun i => .int (-i))
theorem rdI {f : Int → Int → Int} (i j : Int) (G : Hp) : RdD K G (Dat.int (f i j)) (V.int (f i j)) := by unfold RdD; rfl
theorem rdB {f : Int → Int → Bool} (i j : Int) (G : Hp) : RdD K G (Dat.bl (f i j)) (V.bl (f i j)) := by unfold RdD; rfl
theorem me_add (ha : ME X W a da) (hb : ME X W b db) : ME X W (.BinOp a .Add b pos) (dAdd da db) := me_bin op_add (op2_I0 rdI) ha hb
theorem me_sub (ha : ME X W a da) (hb : ME X W b db) : ME X W (.BinOp a .Sub b pos) (dSub da db) := me_bin op_sub (op2_I0 rdI) ha hb
theorem me_mul (ha : ME X W a da) (hb : ME X W b db) : ME X W (.BinOp a .Mult b pos) (dMul da db) := me_bin op_mulD (op2_I rdI) ha hb
theorem me_div (ha : ME X W a da) (hb : ME X W b db) : ME X W (.BinOp a .FloorDiv b pos) (dDiv da db) := me_bin op_fdivD (op2_I rdI) ha hb
theorem me_divP (ha : ME X W a da) (hb : ME X W b db) : ME X W (.BinOp a .FloorDiv b pos) (dDivP da db) := me_bin op_fdivP (op2_I rdI) ha hb
theorem me_mod (ha : ME X W a da) (hb : ME X W b db) : ME X W (.BinOp a .Mod b pos) (dMod da db) := me_bin op_modN (op2_I (C := ModOk) rdI) ha hb
theorem me_modP (ha : ME X W a da) (hb : ME X W b db) : ME X W (.BinOp a .Mod b pos) (dModP da db) := me_bin op_mod (op2_I (C := ModP) rdI) ha hb
theorem me_pow (ha : ME X W a da) (hb : ME X W b db) : ME X W (.BinOp a .Pow b pos) (dPow da db) := me_bin op_pow (op2_I rdI) ha hb
theorem me_neg (ha : ME X W a da) : ME X W (.UnaryOp .USub a pos) (dNeg da) := me_un un_neg (op1_U fun i G => by unfold RdD; rfl) ha
theorem me_lt (ha : ME X W a da) (hb : ME X W b db) : ME X W (.Compare a [.Lt] [b] pos) (dLt da db) := me_cmp op_lt (op2_I0 rdB) ha hb (nomark _)
theorem me_le (ha : ME X W a da) (hb : ME X W b db) : ME X W (.Compare a [.LtE] [b] pos) (dLe da db) := me_cmp op_le (op2_I0 rdB) ha hb (nomark _)
theorem me_gt (ha : ME X W a da) (hb : ME X W b db) : ME X W (.Compare a [.Gt] [b] pos) (dGt da db) := me_cmp op_gt (op2_I0 rdB) ha hb (nomark _)
theorem me_ge (ha : ME X W a da) (hb : ME X W b db) : ME X W (.Compare a [.GtE] [b] pos) (dGe da db) := me_cmp op_ge (op2_I0 rdB) ha hb (nomark _)
end

/-! ### == of data -/
mutual
def toPy : Dat → PyData
  | .non => .none
  | .bl b => .bool b
  | .int i => .int i
  | .str x => .str x
  | .tup ds => .tuple (toPyL ds)
  | .lst ds => .list (toPyL ds)
  | .dic _ => .none
def toPyL : List Dat → List PyData
  | [] => []
  | d :: ds => toPy d :: toPyL ds
end
mutual
/-- no dict within -/
def plainD : Dat → Bool
  | .tup ds => plainDL ds
  | .lst ds => plainDL ds
  | .dic _ => false
  | _ => true
def plainDL : List Dat → Bool
  | [] => true
  | d :: ds => plainD d && plainDL ds
end
mutual
theorem RdD.dp {K : PySem.W.Frag} {H : Hp} : ∀ (d : Dat) (v : V), plainD d = true → RdD K H d v → Dp K H v (toPy d)
  | .non, _, _, h => by unfold RdD at h; subst h; unfold toPy; exact .non
  | .bl b, _, _, h => by unfold RdD at h; subst h; unfold toPy; exact .bl b
  | .int i, _, _, h => by unfold RdD at h; subst h; unfold toPy; exact .int i
  | .str x, _, _, h => by unfold RdD at h; subst h; unfold toPy; exact .str x
  | .tup ds, v, p, h => by
    unfold plainD at p; unfold RdD at h; unfold toPy
    obtain ⟨a, vs, rfl, g, r⟩ := h
    exact .tup (SqT.of g) (RdL.dp ds vs p r)
  | .lst ds, v, p, h => by
    unfold plainD at p; unfold RdD at h; unfold toPy
    obtain ⟨a, vs, rfl, g, r⟩ := h
    exact .lst g (RdL.dp ds vs p r)
  | .dic _, _, p, _ => by unfold plainD at p; exact nomatch p
theorem RdL.dp {K : PySem.W.Frag} {H : Hp} : ∀ (ds : List Dat) (vs : List V), plainDL ds = true → RdL K H ds vs → DpAll K H vs (toPyL ds)
  | [], _, _, h => by unfold RdL at h; subst h; unfold toPyL; exact .nil
  | d :: ds, vs, p, h => by
    unfold plainDL at p; rw [Bool.and_eq_true] at p
    unfold RdL at h; unfold toPyL
    obtain ⟨v, r, rfl, h1, h2⟩ := h
    exact .cons (RdD.dp d v p.1 h1) (RdL.dp ds r p.2 h2)
end
mutual
/-- Python's == of data -/
def eqD : Dat → Dat → Bool
  | .non, .non => true
  | .bl a, .bl b => a == b
  | .bl a, .int j => (if a then 1 else 0) == j
  | .int i, .bl b => i == (if b then 1 else 0)
  | .int i, .int j => i == j
  | .str x, .str y => x == y
  | .tup xs, .tup ys => eqDL xs ys
  | .lst xs, .lst ys => eqDL xs ys
  | _, _ => false
def eqDL : List Dat → List Dat → Bool
  | [], [] => true
  | x :: xs, y :: ys => eqD x y && eqDL xs ys
  | _, _ => false
end
mutual
theorem eqD_py : ∀ a b : Dat, plainD a = true → plainD b = true → eqD a b = PyData.eqv (toPy a) (toPy b) := by
  intro a b ha hb
  cases a with
  | tup xs =>
    cases b with
    | tup ys => unfold plainD at ha hb; unfold eqD toPy PyData.eqv; exact eqDL_py xs ys ha hb
    | dic _ => unfold plainD at hb; exact nomatch hb
    | _ => unfold eqD toPy PyData.eqv; rfl
  | lst xs =>
    cases b with
    | lst ys => unfold plainD at ha hb; unfold eqD toPy PyData.eqv; exact eqDL_py xs ys ha hb
    | dic _ => unfold plainD at hb; exact nomatch hb
    | _ => unfold eqD toPy PyData.eqv; rfl
  | dic _ => unfold plainD at ha; exact nomatch ha
  | _ =>
    cases b with
    | dic _ => unfold plainD at hb; exact nomatch hb
    | _ => unfold eqD toPy PyData.eqv; rfl
theorem eqDL_py : ∀ a b : List Dat, plainDL a = true → plainDL b = true → eqDL a b = PyData.eqvAll (toPyL a) (toPyL b) := by
  intro a b ha hb
  cases a with
  | nil =>
    cases b with
    | nil => unfold eqDL toPyL PyData.eqvAll; rfl
    | cons y ys => unfold eqDL toPyL PyData.eqvAll; rfl
  | cons x xs =>
    cases b with
    | nil => unfold eqDL toPyL PyData.eqvAll; rfl
    | cons y ys =>
      unfold plainDL at ha hb
      rw [Bool.and_eq_true] at ha hb
      unfold eqDL toPyL PyData.eqvAll
      rw [eqD_py x y ha.1 hb.1, eqDL_py xs ys ha.2 hb.2]
end
mutual
/-- data that == goes through: no dict within, depth at most n -/
def shp : Nat → Dat → Bool
  | _, .non => true
  | _, .bl _ => true
  | _, .int _ => true
  | _, .str x => PyData.strOk x
  | n + 1, .tup ds => shpL n ds
  | n + 1, .lst ds => shpL n ds
  | _, _ => false
def shpL : Nat → List Dat → Bool
  | _, [] => true
  | n, d :: ds => shp n d && shpL n ds
end
mutual
theorem shp_ok : ∀ (n : Nat) (d : Dat), shp n d = true → plainD d = true ∧ (toPy d).canLay0 = true ∧ (toPy d).depth ≤ n
  | n, .non, _ => by unfold plainD toPy PyData.canLay0 PyData.depth; exact ⟨rfl, rfl, Nat.zero_le _⟩
  | n, .bl _, _ => by unfold plainD toPy PyData.canLay0 PyData.depth; exact ⟨rfl, rfl, Nat.zero_le _⟩
  | n, .int _, _ => by unfold plainD toPy PyData.canLay0 PyData.depth; exact ⟨rfl, rfl, Nat.zero_le _⟩
  | n, .str x, h => by unfold shp at h; unfold plainD toPy PyData.canLay0 PyData.depth; exact ⟨rfl, h, Nat.zero_le _⟩
  | 0, .tup ds, h => by unfold shp at h; exact nomatch h
  | 0, .lst ds, h => by unfold shp at h; exact nomatch h
  | n, .dic _, h => by cases n <;> (unfold shp at h; exact nomatch h)
  | n + 1, .tup ds, h => by
    unfold shp at h
    obtain ⟨a, b, c⟩ := shpL_ok n ds h
    unfold plainD toPy PyData.canLay0 PyData.depth
    exact ⟨a, b, Nat.succ_le_succ c⟩
  | n + 1, .lst ds, h => by
    unfold shp at h
    obtain ⟨a, b, c⟩ := shpL_ok n ds h
    unfold plainD toPy PyData.canLay0 PyData.depth
    exact ⟨a, b, Nat.succ_le_succ c⟩
theorem shpL_ok : ∀ (n : Nat) (ds : List Dat), shpL n ds = true → plainDL ds = true ∧ PyData.canLayAll0 (toPyL ds) = true ∧ PyData.depthAll (toPyL ds) ≤ n
  | n, [], _ => by unfold plainDL toPyL PyData.canLayAll0 PyData.depthAll; exact ⟨rfl, rfl, Nat.zero_le _⟩
  | n, d :: ds, h => by
    unfold shpL at h
    rw [Bool.and_eq_true] at h
    obtain ⟨a, b, c⟩ := shp_ok n d h.1
    obtain ⟨a2, b2, c2⟩ := shpL_ok n ds h.2
    unfold plainDL toPyL PyData.canLayAll0 PyData.depthAll
    exact ⟨by rw [a, a2]; rfl, by rw [b, b2]; rfl, Nat.max_le.mpr ⟨c, c2⟩⟩
end
theorem shp_shaped {d : Dat} (h : shp 64 d = true) : plainD d = true ∧ SeqAt.shaped (toPy d) = true := by
  obtain ⟨a, b, c⟩ := shp_ok 64 d h
  exact ⟨a, by unfold SeqAt.shaped; rw [b, decide_eq_true c]; rfl⟩
def kEq : Rv → Rv → (Rv → Prop) → (Str → Prop) → Prop := fun x y κ _ =>
  (shp 64 x.dat = true ∧ shp 64 y.dat = true) ∧ κ (.v (.bl (eqD x.dat y.dat)))
def kNe : Rv → Rv → (Rv → Prop) → (Str → Prop) → Prop := fun x y κ _ =>
  (shp 64 x.dat = true ∧ shp 64 y.dat = true) ∧ κ (.v (.bl (!eqD x.dat y.dat)))
theorem op2_eq {K : PySem.W.Frag} : Op2 K (rEqD K) kEq := by
  intro H0 G Hs H x y v u Q κ ε s s0 sh rx ry h q
  obtain ⟨⟨p1, p2⟩, hk⟩ := h
  obtain ⟨p1, p3⟩ := shp_shaped p1
  obtain ⟨p2, p4⟩ := shp_shaped p2
  refine ⟨_, _, RdD.dp _ _ p1 (rx.read s s0), RdD.dp _ _ p2 (ry.read s s0), p3, p4, ?_⟩
  rw [← eqD_py _ _ p1 p2]
  exact q _ H G (.v (.bl _)) (Ext.refl s) (by show RdD K G _ _; unfold RdD; rfl) hk
theorem op2_ne {K : PySem.W.Frag} : Op2 K (rNeD K) kNe := by
  intro H0 G Hs H x y v u Q κ ε s s0 sh rx ry h q
  obtain ⟨⟨p1, p2⟩, hk⟩ := h
  obtain ⟨p1, p3⟩ := shp_shaped p1
  obtain ⟨p2, p4⟩ := shp_shaped p2
  refine ⟨_, _, RdD.dp _ _ p1 (rx.read s s0), RdD.dp _ _ p2 (ry.read s s0), p3, p4, ?_⟩
  rw [← eqD_py _ _ p1 p2]
  exact q _ H G (.v (.bl _)) (Ext.refl s) (by show RdD K G _ _; unfold RdD; rfl) hk
end DL
namespace DL
open PySem PySem.Spec PyProof.Rows L2
variable {K : PySem.W.Frag}

/-! ### truths -/
def dAnd (a b : DE) : DE := fun ρ κ ε => a ρ (fun x => asB x fun c => if c = true then b ρ κ ε else κ (.v (.bl false))) ε
def dOr (a b : DE) : DE := fun ρ κ ε => a ρ (fun x => asB x fun c => if c = true then κ (.v (.bl true)) else b ρ κ ε) ε
def dNot (a : DE) : DE := fun ρ κ ε => a ρ (fun x => asB x fun c => κ (.v (.bl (!c)))) ε
def tVal (a : DE) : DT := fun ρ κ ε => a ρ (fun x => asB x κ) ε
def tAndD (a b : DT) : DT := fun ρ κ ε => a ρ (fun c => if c = true then b ρ κ ε else κ false) ε
def tOrD (a b : DT) : DT := fun ρ κ ε => a ρ (fun c => if c = true then κ true else b ρ κ ε) ε
def tNotD (a : DT) : DT := fun ρ κ ε => a ρ (fun c => κ (!c)) ε
theorem rd_bl {G : Hp} {b : Bool} : RdD K G (Dat.bl b) (V.bl b) := by unfold RdD; rfl
section
variable {mg : MG} {W : WX} {ta tb : TE} {a b : DE} {ua ub : TT} {p q : DT}
theorem eok_and (ha : EOk K mg W ta a) (hb : EOk K mg W tb b) : EOk K mg W (tAndV ta tb) (dAnd a b) := by
  intro H0 G0 G ρ σ H Q κ ε R h hq hx
  refine ha H0 G0 G ρ σ H _ _ ε R h (fun v H1 G1 x e1 r1 h1 => ?_) hx
  obtain ⟨c, rfl, k⟩ := asB.of h1
  have r1 : RdD K G1 (.bl c) v := r1
  unfold RdD at r1
  refine ⟨c, r1, ?_⟩
  by_cases hc : c = true
  · rw [if_pos hc] at k ⊢
    exact hb H0 G0 G1 ρ σ H1 Q κ ε (R.on e1) k (fun v2 H2 G2 z e2 r2 h2 => hq v2 H2 G2 z (e1.trans e2) (r2.back e1.h) h2) (hx.on e1)
  · rw [if_neg hc] at k ⊢
    exact hq _ H1 G1 (.v (.bl false)) e1 (rd_bl (K := K) (G := G1)) k
theorem eok_or (ha : EOk K mg W ta a) (hb : EOk K mg W tb b) : EOk K mg W (tOrV ta tb) (dOr a b) := by
  intro H0 G0 G ρ σ H Q κ ε R h hq hx
  refine ha H0 G0 G ρ σ H _ _ ε R h (fun v H1 G1 x e1 r1 h1 => ?_) hx
  obtain ⟨c, rfl, k⟩ := asB.of h1
  have r1 : RdD K G1 (.bl c) v := r1
  unfold RdD at r1
  refine ⟨c, r1, ?_⟩
  by_cases hc : c = true
  · rw [if_pos hc] at k ⊢
    exact hq _ H1 G1 (.v (.bl true)) e1 (rd_bl (K := K) (G := G1)) k
  · rw [if_neg hc] at k ⊢
    exact hb H0 G0 G1 ρ σ H1 Q κ ε (R.on e1) k (fun v2 H2 G2 z e2 r2 h2 => hq v2 H2 G2 z (e1.trans e2) (r2.back e1.h) h2) (hx.on e1)
theorem eok_not (ha : EOk K mg W ta a) : EOk K mg W (tNotV ta) (dNot a) := by
  intro H0 G0 G ρ σ H Q κ ε R h hq hx
  refine ha H0 G0 G ρ σ H _ _ ε R h (fun v H1 G1 x e1 r1 h1 => ?_) hx
  obtain ⟨c, rfl, k⟩ := asB.of h1
  have r1 : RdD K G1 (.bl c) v := r1
  unfold RdD at r1
  exact ⟨c, r1, hq _ H1 G1 (.v (.bl (!c))) e1 (rd_bl (K := K) (G := G1)) k⟩
theorem tok_val (ha : EOk K mg W ta a) : TOk K mg W (tB ta) (tVal a) := by
  intro H0 G0 G ρ σ H Q κ ε R h hq hx
  refine ha H0 G0 G ρ σ H _ _ ε R h (fun v H1 G1 x e1 r1 h1 => ?_) hx
  obtain ⟨c, rfl, k⟩ := asB.of h1
  have r1 : RdD K G1 (.bl c) v := r1
  unfold RdD at r1
  exact ⟨c, r1, hq _ H1 G1 e1 k⟩
theorem tok_and (ha : TOk K mg W ua p) (hb : TOk K mg W ub q) : TOk K mg W (tAnd ua ub) (tAndD p q) := by
  intro H0 G0 G ρ σ H Q κ ε R h hq hx
  refine ha H0 G0 G ρ σ H _ _ ε R h (fun c H1 G1 e1 k => ?_) hx
  by_cases hc : c = true
  · rw [if_pos hc] at k ⊢
    exact hb H0 G0 G1 ρ σ H1 Q κ ε (R.on e1) k (fun v2 H2 G2 e2 h2 => hq v2 H2 G2 (e1.trans e2) h2) (hx.on e1)
  · rw [if_neg hc] at k ⊢
    exact hq _ H1 G1 e1 k
theorem tok_or (ha : TOk K mg W ua p) (hb : TOk K mg W ub q) : TOk K mg W (tOr ua ub) (tOrD p q) := by
  intro H0 G0 G ρ σ H Q κ ε R h hq hx
  refine ha H0 G0 G ρ σ H _ _ ε R h (fun c H1 G1 e1 k => ?_) hx
  by_cases hc : c = true
  · rw [if_pos hc] at k ⊢
    exact hq _ H1 G1 e1 k
  · rw [if_neg hc] at k ⊢
    exact hb H0 G0 G1 ρ σ H1 Q κ ε (R.on e1) k (fun v2 H2 G2 e2 h2 => hq v2 H2 G2 (e1.trans e2) h2) (hx.on e1)
theorem tok_not (ha : TOk K mg W ua p) : TOk K mg W (tNot ua) (tNotD p) := by
  intro H0 G0 G ρ σ H Q κ ε R h hq hx
  exact ha H0 G0 G ρ σ H _ _ ε R h (fun c H1 G1 e1 k => hq _ H1 G1 e1 k) hx
end
structure MW (X : Cx) (W : WX) (e : Expr) (δ : DT) : Prop where
  ex : ∃ t, PW X e t ∧ TOk X.K X.mg W t δ
section
variable {X : Cx} {W : WX} {a b : Expr} {da db : DE} {p q : DT} {pos : Pos} {rest : List Expr}
theorem me_one {op : BoolOp} (ha : ME X W a da) : ME X W (.BoolOp op [a] pos) da := by
  obtain ⟨t, pa, oa⟩ := ha
  exact ⟨_, pe_one pa, oa⟩
theorem me_and (ha : ME X W a da) (hb : ME X W (.BoolOp .And (b :: rest) pos) db) : ME X W (.BoolOp .And (a :: b :: rest) pos) (dAnd da db) := by
  obtain ⟨t, pa, oa⟩ := ha
  obtain ⟨u, pb, ob⟩ := hb
  exact ⟨_, pe_and pa pb, eok_and oa ob⟩
theorem me_or (ha : ME X W a da) (hb : ME X W (.BoolOp .Or (b :: rest) pos) db) : ME X W (.BoolOp .Or (a :: b :: rest) pos) (dOr da db) := by
  obtain ⟨t, pa, oa⟩ := ha
  obtain ⟨u, pb, ob⟩ := hb
  exact ⟨_, pe_or pa pb, eok_or oa ob⟩
theorem me_not (ha : ME X W a da) : ME X W (.UnaryOp .Not a pos) (dNot da) := by
  obtain ⟨t, pa, oa⟩ := ha
  exact ⟨_, pe_not pa, eok_not oa⟩
theorem mt_val (ha : ME X W a da) (he : ∀ whole, isTrue a X.env whole = (do let v ← whole; standAt a.pos; holding [v] (truthy v)) := by intro _; rfl) : MT X W a (tVal da) := by
  obtain ⟨t, pa, oa⟩ := ha
  exact ⟨_, pt_val pa he, tok_val oa⟩
theorem mt_cmp {op : CmpOp} {r : R2} {k : Rv → Rv → (Rv → Prop) → (Str → Prop) → Prop} (ho : OpR X (compareOp op) r) (hr : Op2 X.K r k) (ha : ME X W a da) (hb : ME X W b db) (hm : behindInMarks op b = false) : MT X W (.Compare a [op] [b] pos) (tVal (dBin k da db)) := by
  obtain ⟨ta, pa, oa⟩ := ha
  obtain ⟨tb, pb, ob⟩ := hb
  exact ⟨_, pt_cmpR ho pa pb hm, tok_val (eok_bin oa ob hr)⟩
theorem mt_lt (ha : ME X W a da) (hb : ME X W b db) : MT X W (.Compare a [.Lt] [b] pos) (tVal (dLt da db)) := mt_cmp op_lt (op2_I0 rdB) ha hb (nomark _)
theorem mt_le (ha : ME X W a da) (hb : ME X W b db) : MT X W (.Compare a [.LtE] [b] pos) (tVal (dLe da db)) := mt_cmp op_le (op2_I0 rdB) ha hb (nomark _)
theorem mt_gt (ha : ME X W a da) (hb : ME X W b db) : MT X W (.Compare a [.Gt] [b] pos) (tVal (dGt da db)) := mt_cmp op_gt (op2_I0 rdB) ha hb (nomark _)
theorem mt_ge (ha : ME X W a da) (hb : ME X W b db) : MT X W (.Compare a [.GtE] [b] pos) (tVal (dGe da db)) := mt_cmp op_ge (op2_I0 rdB) ha hb (nomark _)
def dEq := dBin kEq
def dNe := dBin kNe
theorem me_eq (hu : X.A.units + 64 < cLine) (ha : ME X W a da) (hb : ME X W b db) : ME X W (.Compare a [.Eq] [b] pos) (dEq da db) := me_cmp (op_eqD hu) op2_eq ha hb (nomark _)
theorem me_ne (hu : X.A.units + 64 < cLine) (ha : ME X W a da) (hb : ME X W b db) : ME X W (.Compare a [.NotEq] [b] pos) (dNe da db) := me_cmp (op_neD hu) op2_ne ha hb (nomark _)
theorem mt_eq (hu : X.A.units + 64 < cLine) (ha : ME X W a da) (hb : ME X W b db) : MT X W (.Compare a [.Eq] [b] pos) (tVal (dEq da db)) := mt_cmp (op_eqD hu) op2_eq ha hb (nomark _)
theorem mt_ne (hu : X.A.units + 64 < cLine) (ha : ME X W a da) (hb : ME X W b db) : MT X W (.Compare a [.NotEq] [b] pos) (tVal (dNe da db)) := mt_cmp (op_neD hu) op2_ne ha hb (nomark _)
theorem mw_and1 (ha : MT X W a p) : MW X W (.BoolOp .And [a] pos) p := by
  obtain ⟨t, pa, oa⟩ := ha
  exact ⟨_, pw_and1 pa, oa⟩
theorem mw_or1 (ha : MT X W a p) : MW X W (.BoolOp .Or [a] pos) p := by
  obtain ⟨t, pa, oa⟩ := ha
  exact ⟨_, pw_or1 pa, oa⟩
theorem mw_and (ha : MT X W a p) (hb : MW X W (.BoolOp .And (b :: rest) pos) q) : MW X W (.BoolOp .And (a :: b :: rest) pos) (tAndD p q) := by
  obtain ⟨t, pa, oa⟩ := ha
  obtain ⟨u, pb, ob⟩ := hb
  exact ⟨_, pw_and pa pb, tok_and oa ob⟩
theorem mw_or (ha : MT X W a p) (hb : MW X W (.BoolOp .Or (b :: rest) pos) q) : MW X W (.BoolOp .Or (a :: b :: rest) pos) (tOrD p q) := by
  obtain ⟨t, pa, oa⟩ := ha
  obtain ⟨u, pb, ob⟩ := hb
  exact ⟨_, pw_or pa pb, tok_or oa ob⟩
theorem MW.mt {e : Expr} (h : MW X W e p) : MT X W e p := by
  obtain ⟨t, pa, oa⟩ := h
  exact ⟨_, pa.pt, oa⟩
theorem mt_not (ha : MT X W a p) : MT X W (.UnaryOp .Not a pos) (tNotD p) := by
  obtain ⟨t, pa, oa⟩ := ha
  exact ⟨_, pt_not pa, tok_not oa⟩
end

/-! ### arguments, displays -/
def aNil : DA := fun _ κ _ => κ []
def aCons (a : DE) (b : DA) : DA := fun ρ κ ε => a ρ (fun x => b ρ (fun xs => κ (x :: xs)) ε) ε
theorem RvsR.back {H0 G H H1 H' : Hp} (s : Same H H1) : ∀ {rs : List Rv} {vs : List V}, RvsR K H0 G H1 H' rs vs → RvsR K H0 G H H' rs vs
  | [], _, h => h
  | r :: rs, vs, h => by
    obtain ⟨v, w, e, a, b⟩ := h
    exact ⟨v, w, e, a.back s, RvsR.back s b⟩
theorem RvsR.on {H0 G H H1 G' H2 : Hp} (x : Ext H1 G H2 G') : ∀ {rs : List Rv} {vs : List V}, RvsR K H0 G H H1 rs vs → RvsR K H0 G' H H2 rs vs
  | [], _, h => h
  | r :: rs, vs, h => by
    obtain ⟨v, w, e, a, b⟩ := h
    exact ⟨v, w, e, a.on x, RvsR.on x b⟩
section
variable {mg : MG} {W : WX} {ta : TE} {a : DE} {t : TA} {b : DA}
theorem aok_nil : AOk K mg W tNil aNil := fun H0 G0 G ρ σ H Q κ ε R h hq hx => hq [] H G [] (Ext.refl R.ext.s) rfl h
theorem aok_cons (ha : EOk K mg W ta a) (hb : AOk K mg W t b) : AOk K mg W (tCons ta t) (aCons a b) := by
  intro H0 G0 G ρ σ H Q κ ε R h hq hx
  refine ha H0 G0 G ρ σ H _ _ ε R h (fun v H1 G1 x e1 r1 h1 => ?_) hx
  refine hb H0 G0 G1 ρ σ H1 _ _ ε (R.on e1) h1 (fun vs H2 G2 xs e2 r2 h2 => ?_) (hx.on e1)
  exact hq (v :: vs) H2 G2 (x :: xs) (e1.trans e2) ⟨v, vs, rfl, r1.on e2, r2.back e1.h⟩ h2
end
section
variable {X : Cx} {W : WX} {e : Expr} {es : List Expr} {da : DE} {db : DA}
theorem ma_nil : MA X W [] aNil := ⟨_, pa_nil, aok_nil⟩
theorem ma_cons (ha : ME X W e da) (hb : MA X W es db) (hs : starEach (e :: es) X.env = (false, eval e X.env) :: starEach es X.env := by rfl) : MA X W (e :: es) (aCons da db) := by
  obtain ⟨t, pa, oa⟩ := ha
  obtain ⟨u, pb, ob⟩ := hb
  exact ⟨_, pa_cons pa pb hs, aok_cons oa ob⟩
end
/-- values that may be kept: data, new lists -/
def frz1 : Rv → Option Dat
  | .v d => some d
  | .n ds => some (.lst ds)
  | _ => none
def frzs : List Rv → Option (List Dat)
  | [] => some []
  | r :: rs => match frz1 r, frzs rs with
    | some d, some ds => some (d :: ds)
    | _, _ => none
/-- the values are put into the part that stays -/
theorem frz1_ok {H0 G G1 H Gs H' : Hp} {r : Rv} {v : V} {d : Dat} (s1 : Same G G1) (x : Ext H Gs H' G1) (h : RvR K H0 G H H' r v) (e : frz1 r = some d) : ∃ G', Ext H Gs H' G' ∧ Same G1 G' ∧ RdD K G' d v := by
  cases r with
  | v d' => injection e with e; subst e; exact ⟨G1, x, Same.refl _, RdD.mono s1 _ _ h⟩
  | n ds =>
    injection e with e; subst e
    obtain ⟨l, vs, a, b, c, n, g⟩ := h
    cases q : G1 l with
    | none =>
      obtain ⟨y, s⟩ := x.put n b q
      refine ⟨_, y, s, ?_⟩
      unfold RdD; exact ⟨l, vs, a, sq_of upd_same, c.mono (s1.trans s)⟩
    | some o =>
      have z := x.s _ _ q
      rw [b] at z
      cases z
      refine ⟨G1, x, Same.refl _, ?_⟩
      unfold RdD; exact ⟨l, vs, a, sq_of q, c.mono s1⟩
  | b ds => exact nomatch e
  | o ds => exact nomatch e
theorem frzs_ok {H0 G H Gs H' : Hp} (x : Ext H Gs H' G) : ∀ {rs : List Rv} {vs : List V} {ds : List Dat}, RvsR K H0 G H H' rs vs → frzs rs = some ds → ∃ G', Ext H Gs H' G' ∧ Same G G' ∧ RdL K G' ds vs
  | [], vs, ds, h, e => by
    injection e with e; subst e
    exact ⟨G, x, Same.refl _, by unfold RdL; exact h⟩
  | r :: rs, vs, ds, h, e => by
    obtain ⟨v, w, rfl, h1, h2⟩ := h
    unfold frzs at e
    split at e
    · rename_i d es e1 e2
      injection e with e; subst e
      obtain ⟨G1, x1, s1, r1⟩ := frzs_ok x h2 e2
      obtain ⟨G2, x2, s2, r2⟩ := frz1_ok s1 x1 h1 e1
      exact ⟨G2, x2, s1.trans s2, RdL.cons r2 (r1.mono s2)⟩
    · exact nomatch e
def dTup (a : DA) : DE := fun ρ κ ε => a ρ (fun rs => match frzs rs with
  | some ds => Nat.ble rs.length 100000 = true ∧ κ (.v (.tup ds))
  | none => False) ε
def dLst (a : DA) : DE := fun ρ κ ε => a ρ (fun rs => match frzs rs with
  | some ds => Nat.ble rs.length 100000 = true ∧ κ (.n ds)
  | none => False) ε
theorem frzs_len : ∀ {rs : List Rv} {ds : List Dat}, frzs rs = some ds → ds.length = rs.length
  | [], ds, e => by injection e with e; subst e; rfl
  | r :: rs, ds, e => by
    unfold frzs at e
    split at e
    · rename_i d es e1 e2
      injection e with e; subst e
      rw [List.length_cons, List.length_cons, frzs_len e2]
    · exact nomatch e
theorem small_of {n : Nat} (h : Nat.ble n 100000 = true) : n ≤ sizeLine := Nat.le_trans (Nat.le_of_ble_eq_true h) (by decide)
theorem eok_tup {mg : MG} {W : WX} {t : TA} {a : DA} (ha : AOk K mg W t a) : EOk K mg W (tTup t) (dTup a) := by
  intro H0 G0 G ρ σ H Q κ ε R h hq hx
  refine ha H0 G0 G ρ σ H _ _ ε R h (fun vs H1 G1 rs e1 r1 h1 => ?_) hx
  split at h1
  · rename_i ds e
    obtain ⟨G2, x2, s2, r2⟩ := frzs_ok e1 r1 e
    refine ⟨by rw [← r2.len, frzs_len e]; exact small_of h1.1, fun p np => ?_⟩
    have y := Ext.newG (o := HO.tup vs) x2.s np
    refine hq _ _ _ (.v (.tup ds)) (x2.trans y) ?_ h1.2
    show RdD K _ _ _
    unfold RdD
    exact ⟨p, vs, rfl, upd_same, r2.mono y.g⟩
  · exact h1.elim
theorem eok_lst {mg : MG} {W : WX} {t : TA} {a : DA} (ha : AOk K mg W t a) : EOk K mg W (tLst t) (dLst a) := by
  intro H0 G0 G ρ σ H Q κ ε R h hq hx
  refine ha H0 G0 G ρ σ H _ _ ε R h (fun vs H1 G1 rs e1 r1 h1 => ?_) hx
  split at h1
  · rename_i ds e
    obtain ⟨G2, x2, s2, r2⟩ := frzs_ok e1 r1 e
    refine ⟨by rw [← r2.len, frzs_len e]; exact small_of h1.1, fun p np => ?_⟩
    have y := Ext.newH (o := HO.lst vs) x2.s np
    exact hq _ _ _ (.n ds) (x2.trans y) ⟨p, vs, rfl, upd_same, r2, x2.h.free np, x2.s.free np⟩ h1.2
  · exact h1.elim
section
variable {X : Cx} {W : WX} {es : List Expr} {da : DA} {pos : Pos}
theorem me_tup {k : Nat} (h : MA X W es da) : ME X W (.Tuple es k pos) (dTup da) := by
  obtain ⟨t, pa, oa⟩ := h
  exact ⟨_, pe_tup pa, eok_tup oa⟩
theorem me_lst (h : MA X W es da) : ME X W (.List es pos) (dLst da) := by
  obtain ⟨t, pa, oa⟩ := h
  exact ⟨_, pe_lst pa, eok_lst oa⟩
end

/-! ### places, slices -/
def kIx : Rv → Rv → (Rv → Prop) → (Str → Prop) → Prop := fun x y κ _ => asQ x fun ds => asI y fun i => onS (atI ds i) fun d => κ (.v d)
def rIxLT (K : PySem.W.Frag) : R2 := fun x y H Q => rIxL K x y H Q ∨ rIxT K x y H Q
theorem RdL.at {G : Hp} {ds : List Dat} {vs : List V} {i : Int} {d : Dat} (h : RdL K G ds vs) (e : atI ds i = some d) : ∃ v, atI vs i = some v ∧ RdD K G d v := by
  unfold atI at e ⊢
  rw [← h.len]
  cases q : ixN ds.length i with
  | none => rw [q] at e; exact nomatch e
  | some j =>
    rw [q] at e
    exact h.get e
theorem op2_ix {K : PySem.W.Frag} : Op2 K (rIxLT K) kIx := by
  intro H0 G Hs H x y v u Q κ ε s s0 sh rx ry h q
  obtain ⟨ds, e, h1⟩ := asQ.of h
  obtain ⟨i, rfl, h2⟩ := asI.of h1
  have ry : RdD K G (.int i) u := ry
  unfold RdD at ry
  obtain ⟨d, q2, h2⟩ := onS.of h2
  · rcases e with e | e
    · obtain ⟨l, vs, rfl, b, c⟩ := rx.lst s s0 e
      obtain ⟨w, e1, e2⟩ := c.at q2
      exact .inl ⟨l, vs, i, w, rfl, ry, b, e1, q w H G (.v d) (Ext.refl s) e2 h2⟩
    · cases x with
      | v d0 =>
        have e : d0 = .tup ds := e
        subst e
        have rx : RdD K G (.tup ds) v := rx
        unfold RdD at rx
        obtain ⟨l, vs, rfl, b, c⟩ := rx
        obtain ⟨w, e1, e2⟩ := c.at q2
        exact .inr ⟨l, vs, i, w, rfl, ry, SqT.of (s _ _ b), e1, q w H G (.v d) (Ext.refl s) e2 h2⟩
      | n _ => exact nomatch e
      | b _ => exact nomatch e
      | o _ => exact nomatch e
section
variable {X : Cx} {W : WX} {a b : Expr} {da db : DE} {pos p2 : Pos}
def dIx := dBin kIx
theorem me_ix (ha : ME X W a da) (hb : ME X W b db) (hs : PlainIx b := by exact fun _ _ => rfl) : ME X W (.Subscript a b pos) (dIx da db) := by
  obtain ⟨ta, pa, oa⟩ := ha
  obtain ⟨tb, pb, ob⟩ := hb
  exact ⟨_, pe_ix (ix_list.or ix_tup) pa pb hs, eok_bin oa ob op2_ix⟩
end
abbrev DO := List Sl → (Option Int → Prop) → (Str → Prop) → Prop
def OOk (K : PySem.W.Frag) (mg : MG) (W : WX) (t : TO) (δ : DO) : Prop := ∀ H0 G0 G ρ σ H (Q : Option Int → Hp → Prop) κ ε, Rel K H0 G0 G ρ σ H → δ ρ κ ε →
  (∀ b H' G', Ext H G H' G' → κ b → Q b H') → XOk mg W H G σ ε → t σ H Q
structure MO (X : Cx) (W : WX) (e : Option Expr) (δ : DO) : Prop where
  ex : ∃ t, PO X e t ∧ OOk X.K X.mg W t δ
def oNone : DO := fun _ κ _ => κ none
def oSome (a : DE) : DO := fun ρ κ ε => a ρ (fun x => asI x fun i => κ (some i)) ε
section
variable {X : Cx} {W : WX} {a : Expr} {lo hi : Option Expr} {da : DE} {dl dh : DO} {pos p2 : Pos}
theorem mo_none : MO X W none oNone := ⟨_, po_none, fun H0 G0 G ρ σ H Q κ ε R h hq hx => hq _ H G (Ext.refl R.ext.s) h⟩
theorem mo_some (ha : ME X W a da) : MO X W (some a) (oSome da) := by
  obtain ⟨ta, pa, oa⟩ := ha
  refine ⟨_, po_some pa, fun H0 G0 G ρ σ H Q κ ε R h hq hx => ?_⟩
  refine oa H0 G0 G ρ σ H _ _ ε R h (fun v H1 G1 x e1 r1 h1 => ?_) hx
  obtain ⟨i, rfl, k⟩ := asI.of h1
  have r1 : RdD X.K G1 (.int i) v := r1
  unfold RdD at r1
  exact ⟨i, r1, hq _ H1 G1 e1 k⟩
def cutD (xs : List Dat) (lo hi : Option Int) : List Dat := (xs.drop (HT.sIx xs.length 0 lo)).take (HT.sIx xs.length xs.length hi - HT.sIx xs.length 0 lo)
theorem RdL.cut {G : Hp} {ds : List Dat} {vs : List V} (lo hi : Option Int) (h : RdL K G ds vs) : RdL K G (cutD ds lo hi) (cutV vs lo hi) := by
  unfold cutD cutV
  rw [← h.len]
  exact (h.drop _).take _
/-- a[lo:hi] of a list -/
def dCut (a : DE) (l h : DO) : DE := fun ρ κ ε => a ρ (fun x => l ρ (fun lo => h ρ (fun hi => match x.dat with
  | .lst ds => κ (.n (cutD ds lo hi))
  | .tup ds => κ (.v (.tup (cutD ds lo hi)))
  | _ => False) ε) ε) ε
theorem cut_whole {α : Type} {xs : List α} {n : Nat} (h : xs.length = n) : (xs.drop 0).take (n - 0) = xs := by
  rw [List.drop_zero, Nat.sub_zero, List.take_of_length_le (by omega)]
theorem Rv.tup_of {x : Rv} {ds : List Dat} (e : x.dat = .tup ds) : x = .v (.tup ds) := by
  cases x with
  | v d => have e : d = .tup ds := e; rw [e]
  | n _ => exact nomatch e
  | b _ => exact nomatch e
  | o _ => exact nomatch e
theorem rvT {H0 G Hs H : Hp} {ds : List Dat} {v : V} (s : Same G H) (h : RvR K H0 G Hs H (.v (.tup ds)) v) : ∃ a vs, v = .ref a ∧ SqT K H a vs ∧ RdL K G ds vs := by
  have h : RdD K G (.tup ds) v := h
  unfold RdD at h
  obtain ⟨a, vs, rfl, g, r⟩ := h
  exact ⟨a, vs, rfl, SqT.of (s _ _ g), r⟩
theorem me_cut (ha : ME X W a da) (hl : MO X W lo dl) (hh : MO X W hi dh) : ME X W (.Subscript a (.Slice lo hi none p2) pos) (dCut da dl dh) := by
  obtain ⟨ta, pa, oa⟩ := ha
  obtain ⟨tl, pl, ol⟩ := hl
  obtain ⟨th, ph, oh⟩ := hh
  refine ⟨_, pe_slice (sl_list.or sl_tupA) pa pl ph, fun H0 G0 G ρ σ H Q κ ε R h hq hx => ?_⟩
  refine oa H0 G0 G ρ σ H _ _ ε R h (fun v H1 G1 x e1 r1 h1 => ?_) hx
  refine ol H0 G0 G1 ρ σ H1 _ _ ε (R.on e1) h1 (fun lo H2 G2 e2 h2 => ?_) (hx.on e1)
  refine oh H0 G0 G2 ρ σ H2 _ _ ε ((R.on e1).on e2) h2 (fun hi H3 G3 e3 h3 => ?_) ((hx.on e1).on e2)
  have e4 := (e1.trans e2).trans e3
  have R4 := R.on e4
  split at h3
  · rename_i ds e
    obtain ⟨l, vs, rfl, b, c⟩ := ((r1.on e2).on e3).lst e4.s R4.ext.h e
    refine .inl ⟨l, vs, rfl, b, fun p np => ?_⟩
    have y := Ext.newH (o := HO.lst (cutV vs lo hi)) e4.s np
    exact hq _ _ _ (.n (cutD ds lo hi)) (e4.trans y) ⟨p, _, rfl, upd_same, c.cut lo hi, e4.h.free np, e4.s.free np⟩ h3
  · rename_i ds e
    obtain rfl := Rv.tup_of e
    have rx0 : RdD X.K G3 (.tup ds) v := RdD.mono (e2.trans e3).g _ _ r1
    obtain ⟨l, vs, rfl, b, c⟩ := rvT e4.s ((r1.on e2).on e3)
    refine .inr ⟨l, vs, rfl, b, fun hw => ?_, fun _ p np => ?_⟩
    · refine hq _ H3 G3 (.v (.tup (cutD ds lo hi))) e4 ?_ h3
      have : cutD ds lo hi = ds := by
        unfold cutD
        rw [c.len, hw.1, hw.2]
        exact cut_whole c.len
      rw [this]
      exact rx0
    · have y := Ext.newG (o := HO.tup (cutV vs lo hi)) e4.s np
      refine hq _ _ _ (.v (.tup (cutD ds lo hi))) (e4.trans y) ?_ h3
      show RdD X.K _ _ _
      unfold RdD
      exact ⟨p, _, rfl, upd_same, (c.cut lo hi).mono y.g⟩
  · exact h3.elim
end

/-! ### xs + ys of lists -/
theorem Inv.lstR {X : Cx} {pins : List (Addr × Obj)} {σ : L2.St} {H : Hp} {s : Shared} {l : Addr} {xs : List V} (I : Inv X pins σ H s) (hH : SqL X.K H l xs) :
    xs.length ≤ sizeLine ∧ ∃ (its : List Value) (n : Nat) (dd : Option Addr) (sl : Array (Option Value)), Vals xs its ∧ xs.length = its.length ∧ s.heap.get? l = some { cls := .type "list", dict := dd, data := .seq its.toArray n, slots := sl } := by
  obtain ⟨its, r, pl, hz⟩ := I.list hH
  obtain ⟨⟨cls, dd, data, sl⟩, ho, hc, n, hd⟩ := pl.isList
  have hc : cls = .type "list" := hc
  have hd : data = .seq its.toArray n := hd
  rw [hc, hd] at ho
  exact ⟨hz, its, n, dd, sl, r, r.length, ho⟩
def rCatR (K : PySem.W.Frag) : R2 := fun x y H Q => ∃ l b xs zs, x = .ref l ∧ y = .ref b ∧ SqL K H l xs ∧ SqL K H b zs ∧ xs.length + zs.length ≤ sizeLine ∧ ∀ p, H p = none → Q (.ref p) (upd H p (.lst (xs ++ zs)))
theorem op_catR {X : Cx} : OpR X (binaryOp .Add) (rCatR X.K) := fun pins s σ H x y v u Q I rx ry h => by
  obtain ⟨l, b, xs, zs, rfl, rfl, hH, hB, hz, q⟩ := h
  have ex : v = Value.ref l := rx
  have ey : u = Value.ref b := ry
  subst ex ey
  obtain ⟨_, its, n, dd, sl, r, hl, e⟩ := Inv.lstR I hH
  obtain ⟨_, jts, m, dd2, sl2, t, ht, f⟩ := Inv.lstR I hB
  have sz : its.toArray.size + jts.toArray.size ≤ sizeLine := by rw [List.size_toArray, List.size_toArray, ← hl, ← ht]; exact hz
  refine concat_meets (S := _) ⟨_, e, rfl⟩ ⟨_, f, rfl⟩ noFill_list_add seq_list_add PySem.F.slot_list_add PySem.F.entry_list_add
    (PySem.F.args_list_add_2 _ _) (list_addW l b its.toArray jts.toArray n m dd dd2 sl sl2 sz) ⟨e, f, ?_⟩
  rw [show its.toArray ++ jts.toArray = (its ++ jts).toArray by simp]
  exact ⟨.ref _, _, I.lnew (t' := s.toks) (r.append t) (by rw [List.length_append]; exact hz), rfl, q _ I.fresh⟩
def kCat : Rv → Rv → (Rv → Prop) → (Str → Prop) → Prop := fun x y κ _ => asL x fun ds => asL y fun es => ds.length + es.length ≤ sizeLine ∧ κ (.n (ds ++ es))
theorem op2_cat : Op2 K (rCatR K) kCat := by
  intro H0 G Hs H x y v u Q κ ε s s0 sh rx ry h q
  obtain ⟨ds, e1, h1⟩ := asL.of h
  obtain ⟨es, e2, h2, h3⟩ := asL.of h1
  obtain ⟨l, vs, rfl, b, c⟩ := rx.lst s s0 e1
  obtain ⟨m, ws, rfl, b2, c2⟩ := ry.lst s s0 e2
  refine ⟨l, m, vs, ws, rfl, rfl, b, b2, by rw [← c.len, ← c2.len]; exact h2, fun p np => ?_⟩
  exact q _ _ _ (.n (ds ++ es)) (Ext.newH s np) ⟨p, _, rfl, upd_same, c.append c2, np, s.free np⟩ h3
section
variable {X : Cx} {W : WX} {a b : Expr} {da db : DE} {pos : Pos}
def dCat := dBin kCat
theorem me_cat (ha : ME X W a da) (hb : ME X W b db) : ME X W (.BinOp a .Add b pos) (dCat da db) := me_bin op_catR op2_cat ha hb
end
end DL
namespace DL
open PySem PySem.Spec PyProof.Rows L2
variable {K : PySem.W.Frag}

/-! ### stores -/
def slOf : Rv → Option Sl
  | .v d => some (.fz d)
  | .n ds => some (.ow ds)
  | .b ds => some (.br ds)
  | .o _ => none
theorem Rel.store {H0 G0 G G' H H' : Hp} {ρ : List Sl} {σ : L2.St} {r : Rv} {v : V} {s : Sl} (R : Rel K H0 G0 G ρ σ H) (x : Ext H G H' G') (h : RvR K H0 G' H H' r v) (e : slOf r = some s) (i : Nat) :
    Rel K H0 G0 G' (ρ.set i s) (σ.set i (some v)) H' := by
  have R' := R.on x
  refine ⟨R'.ext, by rw [List.length_set, List.length_set]; exact R.len, fun j t ht => ?_, fun j k ds es l hj hk lj lk => ?_⟩
  · by_cases hij : i = j
    · subst hij
      by_cases hi : i < ρ.length
      · rw [List.getElem?_set_self hi] at ht
        rw [List.getElem?_set_self (by rw [← R.len]; exact hi)]
        cases ht
        cases r with
        | v d => injection e with e; subst e; exact ⟨v, rfl, h⟩
        | n ds =>
          injection e with e; subst e
          obtain ⟨l, vs, rfl, b, c, n, g⟩ := h
          exact ⟨l, vs, rfl, b, c, g, R.ext.h.free n⟩
        | b ds =>
          injection e with e; subst e
          obtain ⟨l, vs, rfl, b, c⟩ := h
          exact ⟨l, vs, rfl, b, c⟩
        | o ds => exact nomatch e
      · rw [List.getElem?_eq_none (by rw [List.length_set]; omega)] at ht
        exact nomatch ht
    · rw [List.getElem?_set_ne hij] at ht
      rw [List.getElem?_set_ne hij]
      exact R'.sl j t ht
  · have key : ∀ (a b : Nat) (ds es : List Dat), i = a → i ≠ b → (ρ.set i s)[a]? = some (.ow ds) → (ρ.set i s)[b]? = some (.ow es) → (σ.set i (some v))[a]? = some (some (.ref l)) → (σ.set i (some v))[b]? = some (some (.ref l)) → False := by
      intro a b ds es ea nb qa qb la lb
      subst ea
      rw [List.getElem?_set_ne nb] at qb lb
      obtain ⟨l', vs, e1, e2, _⟩ := R.sl b _ qb
      rw [lb] at e1
      cases e1
      have hi : i < ρ.length := by
        by_cases hi : i < ρ.length
        · exact hi
        · rw [List.getElem?_eq_none (by rw [List.length_set]; omega)] at qa; exact nomatch qa
      rw [List.getElem?_set_self hi] at qa
      rw [List.getElem?_set_self (by rw [← R.len]; exact hi)] at la
      cases qa
      cases la
      cases r with
      | v d => exact nomatch e
      | n ds' =>
        obtain ⟨m, ws, em, _, _, n, _⟩ := h
        cases em
        rw [e2] at n
        exact nomatch n
      | b ds' => exact nomatch e
      | o ds' => exact nomatch e
    by_cases hij : i = j
    · by_cases hik : i = k
      · rw [← hij, ← hik]
      · exact (key j k ds es hij hik hj hk lj lk).elim
    · by_cases hik : i = k
      · exact (key k j es ds hik hij hk hj lk lj).elim
      · rw [List.getElem?_set_ne hij] at hj lj
        rw [List.getElem?_set_ne hik] at hk lk
        exact R.inj j k ds es l hj hk lj lk
/-- an own list is rewritten -/
theorem Rel.write {H0 G0 G H : Hp} {ρ : List Sl} {σ : L2.St} {ds es : List Dat} {ws : List V} {l : Addr} {i : Nat} (R : Rel K H0 G0 G ρ σ H) (e : ρ[i]? = some (.ow ds)) (el : σ[i]? = some (some (.ref l))) (hw : RdL K G es ws) :
    Rel K H0 G0 G (ρ.set i (.ow es)) σ (upd H l (.lst ws)) := by
  obtain ⟨l', vs, e1, e2, e3, e4, e5⟩ := R.sl _ _ e
  rw [el] at e1
  cases e1
  have hi : i < ρ.length := by
    by_cases hi : i < ρ.length
    · exact hi
    · rw [List.getElem?_eq_none (by omega)] at e; exact nomatch e
  have same : ∀ {G' : Hp}, Same G' H → G' l = none → Same G' (upd H l (.lst ws)) := fun s n b o h => by
    rw [upd_ne (fun z => by rw [z, n] at h; exact nomatch h)]
    exact s _ _ h
  refine ⟨⟨same R.ext.h e5, R.ext.g, same R.ext.s e4, R.ext.f⟩, by rw [List.length_set]; exact R.len, fun j t ht => ?_, fun j k as bs m hj hk lj lk => ?_⟩
  · by_cases hij : i = j
    · subst hij
      rw [List.getElem?_set_self hi] at ht
      cases ht
      exact ⟨l, ws, el, upd_same, hw, e4, e5⟩
    · rw [List.getElem?_set_ne hij] at ht
      have h := R.sl j t ht
      cases t with
      | un => trivial
      | fz d => exact h
      | ow as =>
        obtain ⟨m, us, f1, f2, f3⟩ := h
        refine ⟨m, us, f1, ?_, f3⟩
        rw [upd_ne (fun z => hij (R.inj i j ds as l e ht el (by rw [f1, z])))]
        exact f2
      | br as => exact h
      | adr a => exact h
      | dc a kvs =>
        obtain ⟨f1, f2, f3, f4⟩ := h
        obtain ⟨es, ea⟩ := f2.at
        refine ⟨f1, f2.mono (Same.refl G) (fun o ho => ?_), f3, f4⟩
        rw [upd_ne (fun z => by rw [z, e2] at ea; exact nomatch ea)]
        exact ho
  · have back : ∀ (a : Nat) (as : List Dat), (ρ.set i (.ow es))[a]? = some (.ow as) → ∃ bs, ρ[a]? = some (.ow bs) := fun a as h => by
      by_cases hia : i = a
      · exact ⟨ds, by rw [← hia]; exact e⟩
      · rw [List.getElem?_set_ne hia] at h; exact ⟨as, h⟩
    obtain ⟨as', ja⟩ := back j as hj
    obtain ⟨bs', kb⟩ := back k bs hk
    exact R.inj j k as' bs' m ja kb lj lk
/-- an own list becomes data that stays -/
def frzSl (ρ : List Sl) (i : Nat) : List Sl := match ρ[i]? with
  | some (.ow ds) => ρ.set i (.fz (.lst ds))
  | _ => ρ
theorem Rel.frz {H0 G0 G H : Hp} {ρ : List Sl} {σ : L2.St} (R : Rel K H0 G0 G ρ σ H) (i : Nat) : ∃ G', Rel K H0 G0 G' (frzSl ρ i) σ H := by
  unfold frzSl
  split
  · rename_i ds e
    obtain ⟨l, vs, e1, e2, e3, e4, e5⟩ := R.sl _ _ e
    obtain ⟨x, s⟩ := R.ext.put e5 e2 e4
    have hi : i < ρ.length := by
      by_cases hi : i < ρ.length
      · exact hi
      · rw [List.getElem?_eq_none (by omega)] at e; exact nomatch e
    refine ⟨_, x, by rw [List.length_set]; exact R.len, fun j t ht => ?_, fun j k as bs m hj hk lj lk => ?_⟩
    · by_cases hij : i = j
      · subst hij
        rw [List.getElem?_set_self hi] at ht
        cases ht
        refine ⟨_, e1, ?_⟩
        unfold RdD
        exact ⟨l, vs, rfl, sq_of upd_same, e3.mono s⟩
      · rw [List.getElem?_set_ne hij] at ht
        have h := R.sl j t ht
        cases t with
        | un => trivial
        | fz d => obtain ⟨v, a, b⟩ := h; exact ⟨v, a, RdD.mono s _ _ b⟩
        | ow as =>
          obtain ⟨m, us, f1, f2, f3, f4, f5⟩ := h
          refine ⟨m, us, f1, f2, f3.mono s, ?_, f5⟩
          rw [upd_ne (fun z => hij (R.inj i j ds as l e ht e1 (by rw [f1, z])))]
          exact f4
        | br as => obtain ⟨m, us, a, b, c⟩ := h; exact ⟨m, us, a, b, c.mono s⟩
        | adr a => exact h
        | dc a kvs =>
          obtain ⟨f1, f2, f3, f4⟩ := h
          obtain ⟨es, ea⟩ := f2.at
          refine ⟨f1, f2.mono s fun o ho => ho, ?_, f4⟩
          rw [upd_ne (fun z => by rw [z, e2] at ea; exact nomatch ea)]
          exact f3
    · have back : ∀ (a : Nat) (as : List Dat), (ρ.set i (.fz (.lst ds)))[a]? = some (.ow as) → ρ[a]? = some (.ow as) := fun a as h => by
        by_cases hia : i = a
        · subst hia; rw [List.getElem?_set_self hi] at h; exact nomatch h
        · rw [List.getElem?_set_ne hia] at h; exact h
      exact R.inj j k as bs m (back _ _ hj) (back _ _ hk) lj lk
  · exact ⟨G, R⟩
/-- forgotten slots -/
theorem Rel.weak {H0 G0 G H : Hp} {ρ ρ' : List Sl} {σ σ' : L2.St} (R : Rel K H0 G0 G ρ σ H) (hl : ρ'.length = ρ.length) (hs : σ'.length = σ.length) (w : ∀ (i : Nat) (s : Sl), ρ'[i]? = some s → s = Sl.un ∨ (ρ[i]? = some s ∧ σ'[i]? = σ[i]?)) : Rel K H0 G0 G ρ' σ' H := by
  refine ⟨R.ext, by rw [hl, hs]; exact R.len, fun i s h => ?_, fun i j ds es l hi hj li lj => ?_⟩
  · rcases w i s h with rfl | ⟨a, b⟩
    · trivial
    · rw [b]; exact R.sl i s a
  · rcases w i _ hi with h | ⟨a, b⟩
    · exact nomatch h
    · rcases w j _ hj with h | ⟨c, d⟩
      · exact nomatch h
      · exact R.inj i j ds es l a c (by rw [← b]; exact li) (by rw [← d]; exact lj)

/-! ### targets -/
abbrev DG := Rv → List Sl → (List Sl → Prop) → Prop
/-- only these slots are touched -/
def Tch (is : List Nat) (σ σ' : L2.St) : Prop := σ'.length = σ.length ∧ ∀ j, j ∉ is → σ'[j]? = σ[j]?
theorem Tch.refl (σ : L2.St) : Tch [] σ σ := ⟨rfl, fun _ _ => rfl⟩
theorem Tch.trans {is js : List Nat} {σ σ1 σ2 : L2.St} (a : Tch is σ σ1) (b : Tch js σ1 σ2) : Tch (is ++ js) σ σ2 :=
  ⟨b.1.trans a.1, fun j h => by rw [b.2 j (fun z => h (List.mem_append_right _ z)), a.2 j (fun z => h (List.mem_append_left _ z))]⟩
theorem Tch.set (σ : L2.St) (i : Nat) (v : Option V) : Tch [i] σ (σ.set i v) := ⟨by rw [List.length_set], fun j h => by rw [List.getElem?_set_ne (fun z => h (by rw [z]; exact List.mem_singleton.mpr rfl))]⟩
def GOk (K : PySem.W.Frag) (t : TG) (is : List Nat) (γ : DG) : Prop := ∀ H0 G0 Gs G ρ σ Hs H r v (Q : L2.St → Hp → Prop) (κ : List Sl → Prop), Rel K H0 G0 Gs ρ σ Hs → Ext Hs Gs H G → RvR K H0 G Hs H r v → γ r ρ κ →
  (∀ ρ' σ', Rel K H0 G0 G ρ' σ' H → Tch is σ σ' → κ ρ' → Q σ' H) → t v σ H Q
def GsOk (K : PySem.W.Frag) (t : TGs) (is : List Nat) (γ : List Dat → List Sl → (List Sl → Prop) → Prop) : Prop := ∀ H0 G0 G ρ σ H ds vs (Q : L2.St → Hp → Prop) (κ : List Sl → Prop), Rel K H0 G0 G ρ σ H → RdL K G ds vs → γ ds ρ κ →
  (∀ ρ' σ', Rel K H0 G0 G ρ' σ' H → Tch is σ σ' → κ ρ' → Q σ' H) → t vs σ H Q
structure MG1 (X : Cx) (e : Expr) (is : List Nat) (γ : DG) : Prop where
  ex : ∃ t, PG X e t ∧ GOk X.K t is γ
structure MGs (X : Cx) (es : List Expr) (is : List Nat) (γ : List Dat → List Sl → (List Sl → Prop) → Prop) : Prop where
  ex : ∃ t, PGs X es t ∧ GsOk X.K t is γ
def gN (i : Nat) : DG := fun r ρ κ => match slOf r with
  | some s => κ (ρ.set i s)
  | none => False
def gsNil : List Dat → List Sl → (List Sl → Prop) → Prop := fun ds ρ κ => match ds with
  | [] => κ ρ
  | _ => False
def gsCons (g : DG) (h : List Dat → List Sl → (List Sl → Prop) → Prop) : List Dat → List Sl → (List Sl → Prop) → Prop := fun ds ρ κ => match ds with
  | d :: es => g (.v d) ρ (fun ρ' => h es ρ' κ)
  | [] => False
def gT (n : Nat) (h : List Dat → List Sl → (List Sl → Prop) → Prop) : DG := fun r ρ κ => asQ r fun ds => ds.length = n ∧ h ds ρ κ
theorem pg_or {X : Cx} {e : Expr} {t u : TG} (h : PG X e t) (h' : PG X e u) : PG X e (fun v σ H Q => t v σ H Q ∨ u v σ H Q) :=
  ⟨fun pins s σ H v w Q I r q => q.elim (fun q => h.run pins s σ H v w Q I r q) fun q => h'.run pins s σ H v w Q I r q⟩
def gL (n : Nat) (h : List Dat → List Sl → (List Sl → Prop) → Prop) : DG := fun r ρ κ => asL r fun ds => ds.length = n ∧ h ds ρ κ
section
variable {X : Cx} {e : Expr} {es : List Expr} {g : DG} {h : List Dat → List Sl → (List Sl → Prop) → Prop} {pos : Pos}
theorem mg_name (i : Nat) {x : Str} (hN : X.N.Nodup) (hi : X.N[i]? = some x := by rfl) (hx : Loc X.env.scope x := by first | exact Or.inl rfl | exact Or.inr rfl) (hf : X.fn x = true ∨ X.env.scope.names.lookup x = some .local := by first | exact .inl rfl | exact .inr rfl | assumption) : MG1 X (.Name x pos) [i] (gN i) := by
  refine ⟨_, pg_name hN hi hx hf, fun H0 G0 Gs G ρ σ Hs H r v Q κ R x hr hg hq => ?_⟩
  unfold gN at hg
  split at hg
  · rename_i s e
    exact hq _ _ (R.store x hr e i) (Tch.set _ _ _) hg
  · exact hg.elim
theorem mgs_nil : MGs X [] [] gsNil := by
  refine ⟨_, pgs_nil, fun H0 G0 G ρ σ H ds vs Q κ R hr hg hq => ?_⟩
  cases ds with
  | nil => unfold RdL at hr; exact ⟨hr, hq _ _ R (Tch.refl _) hg⟩
  | cons d ds => exact hg.elim
theorem mgs_cons {is js : List Nat} (h1 : MG1 X e is g) (h2 : MGs X es js h) (hs : (assignEach (e :: es) X.env).map (·.2) = assign e X.env :: (assignEach es X.env).map (·.2) := by rfl) : MGs X (e :: es) (is ++ js) (gsCons g h) := by
  obtain ⟨t, pg, og⟩ := h1
  obtain ⟨u, pu, ou⟩ := h2
  refine ⟨_, pgs_cons pg pu hs, fun H0 G0 G ρ σ H ds vs Q κ R hr hg hq => ?_⟩
  cases ds with
  | nil => exact hg.elim
  | cons d ds =>
    unfold RdL at hr
    obtain ⟨v, r, rfl, h1, h2⟩ := hr
    refine ⟨v, r, rfl, ?_⟩
    exact og H0 G0 G G ρ σ H H (.v d) v _ _ R (Ext.refl R.ext.s) h1 hg fun ρ' σ' R' t' h' => ou H0 G0 G ρ' σ' H ds r Q κ R' h2 h' fun ρ2 σ2 R2 t2 h3 => hq ρ2 σ2 R2 (t'.trans t2) h3
theorem mg_tup {k n : Nat} {is : List Nat} (hc : X.calm = true) (hh : MGs X es is h) (hn : (assignEach es X.env).length = n := by rfl) (hst : (assignEach es X.env).findIdx? (·.1) = none := by rfl) : MG1 X (.Tuple es k pos) is (gT n h) := by
  obtain ⟨t, pg, og⟩ := hh
  refine ⟨_, pg_or (pg_tup hc pg hn hst) (pg_lst hc pg hn hst), fun H0 G0 Gs G ρ σ Hs H r v Q κ R x hr hg hq => ?_⟩
  obtain ⟨ds, e, h1, h2⟩ := asQ.of hg
  rcases e with e | e
  · obtain ⟨l, vs, rfl, b, c⟩ := hr.lst x.s (R.on x).ext.h e
    exact .inr ⟨l, vs, rfl, b, by rw [← c.len]; exact h1, og H0 G0 G ρ σ H ds vs Q κ (R.on x) c h2 hq⟩
  · obtain rfl := Rv.tup_of e
    obtain ⟨a, vs, rfl, b, c⟩ := rvT x.s hr
    exact .inl ⟨a, vs, rfl, b, by rw [← c.len]; exact h1, og H0 G0 G ρ σ H ds vs Q κ (R.on x) c h2 hq⟩
theorem mg_lst {k n : Nat} {is : List Nat} (hc : X.calm = true) (hh : MGs X es is h) (hn : (assignEach es X.env).length = n := by rfl) (hst : (assignEach es X.env).findIdx? (·.1) = none := by rfl) : MG1 X (.Tuple es k pos) is (gL n h) := by
  obtain ⟨t, pg, og⟩ := hh
  refine ⟨_, pg_lst hc pg hn hst, fun H0 G0 Gs G ρ σ Hs H r v Q κ R x hr hg hq => ?_⟩
  obtain ⟨ds, e, h1, h2⟩ := asL.of hg
  obtain ⟨l, vs, rfl, b, c⟩ := hr.lst x.s (R.on x).ext.h e
  exact ⟨l, vs, rfl, b, by rw [← c.len]; exact h1, og H0 G0 G ρ σ H ds vs Q κ (R.on x) c h2 hq⟩
end

/-! ### small statements -/
def sNil : DS := fun κ ρ => κ.nx ρ
def sSeq (a b : DS) : DS := fun κ ρ => a { κ with nx := b κ } ρ
def sDrop (a : DE) : DS := fun κ ρ => a ρ (fun _ => κ.nx ρ) (fun nm => κ.ex nm ρ)
def sAsg (a : DE) (g : DG) : DS := fun κ ρ => a ρ (fun r => g r ρ κ.nx) (fun nm => κ.ex nm ρ)
def sRet (a : DE) : DS := fun κ ρ => a ρ (fun r => retOk r = true ∧ κ.rt r) (fun nm => κ.ex nm ρ)
/-- return x -/
def sRetV (i : Nat) : DS := fun κ ρ => match ρ[i]? with
  | some (.fz d) => κ.rt (.v d)
  | some (.ow ds) => κ.rt (.n ds)
  | _ => False
def sRetN : DS := fun κ _ => κ.rt (.v .non)
def sIf (c : DT) (a b : DS) : DS := fun κ ρ => c ρ (fun k => if k = true then a κ ρ else b κ ρ) (fun nm => κ.ex nm ρ)
def sBrk : DS := fun κ ρ => κ.bk ρ
def sCnt : DS := fun κ ρ => κ.ct ρ
/-- first x becomes data that stays -/
def sFrz (i : Nat) (a : DS) : DS := fun κ ρ => a κ (frzSl ρ i)
/-- x op= e -/
def sAug (i : Nat) (a : DE) (k : Rv → Rv → (Rv → Prop) → (Str → Prop) → Prop) : DS := fun κ ρ => dVar i ρ (fun x => a ρ (fun y => k x y (fun z => gN i z ρ κ.nx) (fun nm => κ.ex nm ρ)) (fun nm => κ.ex nm ρ)) (fun nm => κ.ex nm ρ)
theorem Ext.trans' {H0 G0 G H H' G' : Hp} (a : Ext H0 G0 H G) (b : Ext H0 G H' G') : Ext H0 G0 H' G' := ⟨b.h, a.g.trans b.g, b.s, fun x hx hg => b.f x hx (a.f x hx hg)⟩
theorem Rel.sub {H0 G0 G H G' H' : Hp} {ρ ρ' : List Sl} {σ σ' : L2.St} (R : Rel K H0 G0 G ρ σ H) (R' : Rel K H0 G G' ρ' σ' H') : Rel K H0 G0 G' ρ' σ' H' := ⟨R.ext.trans' R'.ext, R'.len, R'.sl, R'.inj⟩
theorem Rel.here {H0 G0 G H : Hp} {ρ : List Sl} {σ : L2.St} (R : Rel K H0 G0 G ρ σ H) : Rel K H0 G G ρ σ H := ⟨⟨R.ext.h, Same.refl _, R.ext.s, fun _ _ h => h⟩, R.len, R.sl, R.inj⟩
theorem EndsOk.sub {mg : MG} {W : WX} {H0 G0 G H : Hp} {ρ : List Sl} {σ : L2.St} {D : Ends} {κ : DEnds} (E : EndsOk K mg W H0 G0 D κ) (R : Rel K H0 G0 G ρ σ H) : EndsOk K mg W H0 G D κ :=
  ⟨fun ρ' σ' H' G' R' k => E.nx ρ' σ' H' G' (R.sub R') k, fun ρ' σ' H' G' R' k => E.bk ρ' σ' H' G' (R.sub R') k,
   fun ρ' σ' H' G' R' k => E.ct ρ' σ' H' G' (R.sub R') k, fun v H' G' r x h o k => E.rt v H' G' r (R.ext.trans' x) h o k,
   fun nm cls ρ' σ' H' G' R' h k => E.ex nm cls ρ' σ' H' G' (R.sub R') h k⟩
/-- Ext from a state to a later one of the same entry -/
theorem Rel.ret {H0 G0 G H H' G' : Hp} {ρ : List Sl} {σ : L2.St} (R : Rel K H0 G0 G ρ σ H) (x : Ext H G H' G') : Ext H0 G0 H' G' := R.ext.trans x
theorem RvR.ret {H0 G' H H' : Hp} {r : Rv} {v : V} (s : Same H0 H) (h : RvR K H0 G' H H' r v) : RvR K H0 G' H0 H' r v := h.back s
theorem dVar_ok {H0 G0 G H : Hp} {ρ : List Sl} {σ : L2.St} {i : Nat} {κ : Rv → Prop} {ε : Str → Prop} (R : Rel K H0 G0 G ρ σ H) (h : dVar i ρ κ ε) : ∃ v r, σ[i]? = some (some v) ∧ RvR K H0 G H H r v ∧ κ r := by
  unfold dVar at h
  split at h
  · rename_i d e
    obtain ⟨v, e1, e2⟩ := R.sl _ _ e
    exact ⟨v, .v d, e1, e2, h⟩
  · rename_i d e
    obtain ⟨l, vs, e1, e2, e3, e4, e5⟩ := R.sl _ _ e
    exact ⟨.ref l, .o d, e1, ⟨l, vs, rfl, e2, e3⟩, h⟩
  · rename_i d e
    obtain ⟨l, vs, e1, e2, e3⟩ := R.sl _ _ e
    exact ⟨.ref l, .b d, e1, ⟨l, vs, rfl, e2, e3⟩, h⟩
  · exact h.elim
section
variable {X : Cx} {W : WX} {st : Stmt} {rest : List Stmt} {e tg : Expr} {a b : DS} {d : DE} {g : DG} {p : DT} {pos : Pos}
theorem mss_nil : MSs X W [] sNil := ⟨_, pss_nil, fun H0 G0 G ρ σ H D κ R h E => E.nx ρ σ H G R h⟩
theorem mss_cons (h1 : MS X W st a) (h2 : MSs X W rest b) : MSs X W (st :: rest) (sSeq a b) := by
  obtain ⟨t, pa, oa⟩ := h1
  obtain ⟨u, pb, ob⟩ := h2
  refine ⟨_, pss_cons pa pb, fun H0 G0 G ρ σ H D κ R h E => ?_⟩
  exact oa H0 G0 G ρ σ H _ _ R h ⟨fun ρ' σ' H' G' R' k => ob H0 G0 G' ρ' σ' H' D κ R' k E, E.bk, E.ct, E.rt, E.ex⟩
theorem mss_one (h1 : MS X W st a) : MSs X W [st] a := by
  obtain ⟨t, pa, oa⟩ := h1
  exact ⟨_, pss_one pa, oa⟩
theorem ms_drop (h : ME X W e d) (hs : swapsWith e none pos.line X.env = pure false := by rfl) : MS X W (.Expr e pos) (sDrop d) := by
  obtain ⟨t, pa, oa⟩ := h
  refine ⟨_, ps_expr pa hs, fun H0 G0 G ρ σ H D κ R h E => ?_⟩
  exact oa H0 G0 G ρ σ H _ _ _ R h (fun v H' G' r x hr k => E.nx ρ σ H' G' (R.on x) k) (E.xok R)
theorem ms_asg {is : List Nat} (h : ME X W e d) (hg : MG1 X tg is g) (hs : swapsWithSole [tg] e pos.line X.env = pure false := by rfl) (hw : swappedStores [tg] e X.env = pure none := by rfl) (h1 : (assignEach [tg] X.env).map (·.2) = [assign tg X.env] := by rfl) : MS X W (.Assign [tg] e pos) (sAsg d g) := by
  obtain ⟨t, pa, oa⟩ := h
  obtain ⟨u, pg, og⟩ := hg
  refine ⟨_, ps_asg pa pg hs hw h1, fun H0 G0 G ρ σ H D κ R h E => ?_⟩
  exact oa H0 G0 G ρ σ H _ _ _ R h (fun v H' G' r x hr k => og H0 G0 G G' ρ σ H H' r v _ _ R x hr k fun ρ' σ' R' _ k' => E.nx ρ' σ' H' G' R' k') (E.xok R)
theorem ms_set (i : Nat) {x : Str} {pos' : Pos} (hN : X.N.Nodup) (h : ME X W e d) (hi : X.N[i]? = some x := by rfl) (hx : Loc X.env.scope x := by first | exact Or.inl rfl | exact Or.inr rfl)
    (hs : swapsWith e (some (.Name x pos')) pos.line X.env = pure false := by rfl) (hf : X.fn x = true ∨ X.env.scope.names.lookup x = some .local := by first | exact .inl rfl | exact .inr rfl | assumption) : MS X W (.Assign [.Name x pos'] e pos) (sAsg d (gN i)) := by
  obtain ⟨t, pa, oa⟩ := h
  obtain ⟨u, pg, og⟩ := mg_name (pos := pos') i hN hi hx hf
  refine ⟨_, ps_set hN hi hx pa hs hf, fun H0 G0 G ρ σ H D κ R h E => ?_⟩
  refine oa H0 G0 G ρ σ H _ _ _ R h (fun v H' G' r x hr k => ?_) (E.xok R)
  unfold gN at k
  split at k
  · rename_i s e
    exact E.nx _ _ _ _ (R.store x hr e i) k
  · exact k.elim
theorem ms_ret (h : ME X W e d) : MS X W (.Return (some e) pos) (sRet d) := by
  obtain ⟨t, pa, oa⟩ := h
  refine ⟨_, ps_ret pa, fun H0 G0 G ρ σ H D κ R h E => ?_⟩
  exact oa H0 G0 G ρ σ H _ _ _ R h (fun v H' G' r x hr k => E.rt v H' G' r (R.ret x) (RvR.ret (G' := G') R.ext.h hr) k.1 k.2) (E.xok R)
theorem ms_retV (i : Nat) {x : Str} {p2 : Pos} (hN : X.N[i]? = some x := by rfl) (hv : Vis X.env.scope x := by first | exact Or.inl rfl | exact Or.inr (Or.inl rfl) | exact Or.inr (Or.inr rfl)) (hd : (x == ("__debug__" : Str)) = false := by decide)
    (hcd : (x == ("__classdict__" : Str)) = false := by decide) : MS X W (.Return (some (.Name x p2)) pos) (sRetV i) := by
  refine ⟨_, ps_ret (pe_var hN hv hd hcd), fun H0 G0 G ρ σ H D κ R h E => ?_⟩
  unfold sRetV at h
  split at h
  · rename_i d e
    obtain ⟨v, e1, e2⟩ := R.sl _ _ e
    exact ⟨v, e1, E.rt v H G (.v d) R.ext e2 rfl h⟩
  · rename_i d e
    obtain ⟨l, vs, e1, e2, e3, e4, e5⟩ := R.sl _ _ e
    exact ⟨.ref l, e1, E.rt _ H G (.n d) R.ext ⟨l, vs, rfl, e2, e3, e5, e4⟩ rfl h⟩
  · exact h.elim
theorem ms_retN : MS X W (.Return none pos) sRetN := ⟨_, ps_retN, fun H0 G0 G ρ σ H D κ R h E => E.rt _ H G (.v .non) R.ext (by show RdD X.K _ _ _; unfold RdD; rfl) rfl h⟩
theorem ms_if {c : Expr} {xs ys : List Stmt} (hc : MT X W c p) (ha : MSs X W xs a) (hb : MSs X W ys b) : MS X W (.If c xs ys pos) (sIf p a b) := by
  obtain ⟨t, pc, oc⟩ := hc
  obtain ⟨u, pa, oa⟩ := ha
  obtain ⟨w, pb, ob⟩ := hb
  refine ⟨_, ps_if pc pa pb, fun H0 G0 G ρ σ H D κ R h E => ?_⟩
  refine oc H0 G0 G ρ σ H _ _ _ R h (fun k H' G' x hk => ?_) (E.xok R)
  have R' := R.on x
  by_cases hkk : k = true
  · rw [if_pos hkk] at hk ⊢
    exact oa H0 G0 G' ρ σ H' D κ R' hk E
  · rw [if_neg hkk] at hk ⊢
    exact ob H0 G0 G' ρ σ H' D κ R' hk E
theorem ms_pass : MS X W (.Pass pos) sNil := ⟨_, ps_pass, fun H0 G0 G ρ σ H D κ R h E => E.nx ρ σ H G R h⟩
theorem ms_break : MS X W (.Break pos) sBrk := ⟨_, ps_break, fun H0 G0 G ρ σ H D κ R h E => E.bk ρ σ H G R h⟩
theorem ms_continue : MS X W (.Continue pos) sCnt := ⟨_, ps_continue, fun H0 G0 G ρ σ H D κ R h E => E.ct ρ σ H G R h⟩
theorem ms_frz (i : Nat) (h : MS X W st a) : MS X W st (sFrz i a) := by
  obtain ⟨t, pa, oa⟩ := h
  refine ⟨t, pa, fun H0 G0 G ρ σ H D κ R h E => ?_⟩
  obtain ⟨G', R'⟩ := R.frz i
  exact oa H0 G0 G' _ σ H D κ R' h E
theorem mss_frz {sts : List Stmt} (i : Nat) (h : MSs X W sts a) : MSs X W sts (sFrz i a) := by
  obtain ⟨t, pa, oa⟩ := h
  refine ⟨t, pa, fun H0 G0 G ρ σ H D κ R h E => ?_⟩
  obtain ⟨G', R'⟩ := R.frz i
  exact oa H0 G0 G' _ σ H D κ R' h E
theorem ms_aug (i : Nat) {x : Str} {op : Operator} {r : R2} {k : Rv → Rv → (Rv → Prop) → (Str → Prop) → Prop} {pos' : Pos} (ho : OpR X (inplaceOp op) r) (hr : Op2 X.K r k) (hN : X.N.Nodup) (h : ME X W e d) (hi : X.N[i]? = some x := by rfl) (hx : Loc X.env.scope x := by first | exact Or.inl rfl | exact Or.inr rfl)
    (hf : X.fn x = true ∨ X.env.scope.names.lookup x = some .local := by first | exact .inl rfl | exact .inr rfl | assumption) : MS X W (.AugAssign (.Name x pos') op e pos) (sAug i d k) := by
  obtain ⟨t, pa, oa⟩ := h
  have hip : PIp X op r := fun pins s σ H x y v u Q I rx ry q => ho pins s σ H x y v u Q I rx ry q
  refine ⟨_, ps_aug hN hi hx pa hip hf, fun H0 G0 G ρ σ H D κ R h E => ?_⟩
  obtain ⟨v, r1, e1, h1, k1⟩ := dVar_ok R h
  refine ⟨v, e1, ?_⟩
  refine oa H0 G0 G ρ σ H _ _ _ R k1 (fun u H1 G1 y x1 h2 k2 => ?_) (E.xok R)
  have R1 := R.on x1
  refine hr H0 G1 H H1 r1 y v u _ _ _ x1.s R1.ext.h x1.h (h1.on x1) h2 k2 (fun w H2 G2 z x2 h3 k3 => ?_)
  unfold gN at k3
  split at k3
  · rename_i s e
    exact E.nx _ _ _ _ (R1.store x2 h3 e i) k3
  · exact k3.elim
theorem ms_augI (i : Nat) {x : Str} {pos' : Pos} (hN : X.N.Nodup) (h : ME X W e d) (hi : X.N[i]? = some x := by rfl) (hx : Loc X.env.scope x := by first | exact Or.inl rfl | exact Or.inr rfl)
    (hf : X.fn x = true ∨ X.env.scope.names.lookup x = some .local := by first | exact .inl rfl | exact .inr rfl | assumption) : MS X W (.AugAssign (.Name x pos') .Add e pos) (sAug i d (kI0 fun i j => .int (i + j))) :=
  ms_aug i iop_add (op2_I0 rdI) hN h hi hx hf
end
end DL
namespace DL
open PySem PySem.Spec PyProof.Rows L2
variable {K : PySem.W.Frag}

/-- what a body stands in -/
structure Cn (X : Cx) (W : WX) (k : Nat) : Prop where
  tk : Takes X W
  hp : PassesOwn (model X.prog X.w) X.A X.env X.xe
  hc : X.calm = true
  hr : Room k X.A
  nd : X.N.Nodup

/-! ### own lists: append, pop, x[i] = e -/
theorem ow_at {H0 G0 G H : Hp} {ρ : List Sl} {σ : L2.St} {i : Nat} {ds : List Dat} (R : Rel K H0 G0 G ρ σ H) (e : ρ[i]? = some (.ow ds)) : ∃ l vs, σ[i]? = some (some (.ref l)) ∧ H l = some (.lst vs) ∧ RdL K G ds vs := by
  obtain ⟨l, vs, a, b, c, _⟩ := R.sl _ _ e
  exact ⟨l, vs, a, b, c⟩
def sApp (i : Nat) (a : DE) : DS := fun κ ρ => match ρ[i]? with
  | some (.ow ds) => a ρ (fun r => match frz1 r with
    | some d => ds.length < sizeLine ∧ κ.nx (ρ.set i (.ow (ds ++ [d])))
    | none => False) (fun nm => κ.ex nm ρ)
  | _ => False
def sPop (i : Nat) (g : DG) : DS := fun κ ρ => match ρ[i]? with
  | some (.ow ds) => onS ds[ds.length - 1]? fun d => g (.v d) (ρ.set i (.ow ds.dropLast)) κ.nx
  | _ => False
def gDrop : DG := fun _ ρ κ => κ ρ
def sSetI (i : Nat) (a ix : DE) : DS := fun κ ρ => match ρ[i]? with
  | some (.ow ds) => a ρ (fun r => ix ρ (fun k => asI k fun k => match frz1 r with
    | some d => onS (ixN ds.length k) fun j => κ.nx (ρ.set i (.ow (ds.set j d)))
    | none => False) (fun nm => κ.ex nm ρ)) (fun nm => κ.ex nm ρ)
  | _ => False
section
variable {X : Cx} {W : WX} {e ix tg : Expr} {d dix : DE} {g : DG} {pos : Pos} {x : Str}
theorem ms_app (i : Nat) {p2 p3 p4 : Pos} (h : ME X W e d) (hN : X.N[i]? = some x := by rfl) (hv : Vis X.env.scope x := by first | exact Or.inl rfl | exact Or.inr (Or.inl rfl) | exact Or.inr (Or.inr rfl)) (hd : (x == ("__debug__" : Str)) = false := by decide)
    (hcd : (x == ("__classdict__" : Str)) = false := by decide) (hbase : attributeBase (.Name x p2) "append" X.env (eval (.Name x p2) X.env) = eval (.Name x p2) X.env := by rfl)
    (hs : swapsWith (.Call (.Attribute (.Name x p2) "append" p3) [e] [] p4) none pos.line X.env = pure false := by rfl) (hst : starEach (e :: []) X.env = (false, eval e X.env) :: starEach [] X.env := by rfl) (hline : (p3.endLine == p4.line) = true := by rfl)
    (hfew : ((backTo p4 (starEach (e :: []) X.env)).all (!·.1) && (backToKw p4 (keywordEach [] X.env)).all (·.1.isSome) && decide ((e :: []).length + ([] : List Keyword).length + (if ([] : List Keyword).isEmpty then 0 else 1) < 30)) = true := by rfl) :
    MS X W (.Expr (.Call (.Attribute (.Name x p2) "append" p3) [e] [] p4) pos) (sApp i d) := by
  obtain ⟨t, pa, oa⟩ := h
  refine ⟨_, ps_expr (pe_bm PySem.F.plainAttrs_list PySem.F.slot_list_append PySem.F.type_list_append mt_append (pe_var hN hv hd hcd) (pa_cons pa pa_nil hst) hbase (hfew := hfew) (hline := hline) (hs := hst)) hs, fun H0 G0 G ρ σ H D κ R h E => ?_⟩
  unfold sApp at h
  split at h
  · rename_i ds eo
    obtain ⟨l, vs, e1, e2, e3⟩ := ow_at R eo
    refine ⟨.ref l, e1, .inl ⟨rfl, _, SqL.of e2⟩, ?_⟩
    refine oa H0 G0 G ρ σ H _ _ _ R h (fun v H1 G1 r x1 hr k => ?_) (E.xok R)
    split at k
    · rename_i d ed
      obtain ⟨G2, x2, s2, r2⟩ := frz1_ok (Same.refl G1) x1 hr ed
      have R2 := R.on x2
      refine ⟨l, vs, v, rfl, rfl, x1.h _ _ e2, by rw [← e3.len]; exact k.1, ?_⟩
      exact E.nx _ _ _ _ (R2.write eo e1 ((e3.mono x2.g).append (RdL.cons r2 RdL.nil))) k.2
    · exact k.elim
  · exact h.elim
theorem ms_pop (i : Nat) {is : List Nat} {p2 p3 p4 : Pos} (hg : MG1 X tg is g) (hN : X.N[i]? = some x := by rfl) (hv : Vis X.env.scope x := by first | exact Or.inl rfl | exact Or.inr (Or.inl rfl) | exact Or.inr (Or.inr rfl)) (hd : (x == ("__debug__" : Str)) = false := by decide)
    (hcd : (x == ("__classdict__" : Str)) = false := by decide) (hbase : attributeBase (.Name x p2) "pop" X.env (eval (.Name x p2) X.env) = eval (.Name x p2) X.env := by rfl) (hline : (p3.endLine == p4.line) = true := by rfl)
    (hs : swapsWithSole [tg] (.Call (.Attribute (.Name x p2) "pop" p3) [] [] p4) pos.line X.env = pure false := by rfl) (hw : swappedStores [tg] (.Call (.Attribute (.Name x p2) "pop" p3) [] [] p4) X.env = pure none := by rfl) (h1 : (assignEach [tg] X.env).map (·.2) = [assign tg X.env] := by rfl) :
    MS X W (.Assign [tg] (.Call (.Attribute (.Name x p2) "pop" p3) [] [] p4) pos) (sPop i g) := by
  obtain ⟨u, pg, og⟩ := hg
  refine ⟨_, ps_asg (pe_bm0 PySem.F.plainAttrs_list PySem.F.slot_list_pop PySem.F.type_list_pop mt_pop (pe_var hN hv hd hcd) hbase hline) pg hs hw h1, fun H0 G0 G ρ σ H D κ R h E => ?_⟩
  unfold sPop at h
  split at h
  · rename_i ds eo
    obtain ⟨l, vs, e1, e2, e3⟩ := ow_at R eo
    obtain ⟨d, ed, h⟩ := onS.of h
    · obtain ⟨v, ev, rv⟩ := e3.get ed
      refine ⟨.ref l, e1, .inl ⟨rfl, _, SqL.of e2⟩, l, vs, v, rfl, rfl, e2, by rw [← e3.len]; exact ev, ?_⟩
      have R2 := R.write eo e1 e3.dropLast
      exact og H0 G0 G G _ σ _ _ (.v d) v _ _ R2 (Ext.refl R2.ext.s) rv h fun ρ' σ' R' _ k => E.nx ρ' σ' _ G R' k
  · exact h.elim
theorem ms_popD (i : Nat) {p2 p3 p4 : Pos} (hN : X.N[i]? = some x := by rfl) (hv : Vis X.env.scope x := by first | exact Or.inl rfl | exact Or.inr (Or.inl rfl) | exact Or.inr (Or.inr rfl)) (hd : (x == ("__debug__" : Str)) = false := by decide)
    (hcd : (x == ("__classdict__" : Str)) = false := by decide) (hbase : attributeBase (.Name x p2) "pop" X.env (eval (.Name x p2) X.env) = eval (.Name x p2) X.env := by rfl) (hline : (p3.endLine == p4.line) = true := by rfl)
    (hs : swapsWith (.Call (.Attribute (.Name x p2) "pop" p3) [] [] p4) none pos.line X.env = pure false := by rfl) :
    MS X W (.Expr (.Call (.Attribute (.Name x p2) "pop" p3) [] [] p4) pos) (sPop i gDrop) := by
  refine ⟨_, ps_expr (pe_bm0 PySem.F.plainAttrs_list PySem.F.slot_list_pop PySem.F.type_list_pop mt_pop (pe_var hN hv hd hcd) hbase hline) hs, fun H0 G0 G ρ σ H D κ R h E => ?_⟩
  unfold sPop at h
  split at h
  · rename_i ds eo
    obtain ⟨l, vs, e1, e2, e3⟩ := ow_at R eo
    obtain ⟨d, ed, h⟩ := onS.of h
    · obtain ⟨v, ev, rv⟩ := e3.get ed
      refine ⟨.ref l, e1, .inl ⟨rfl, _, SqL.of e2⟩, l, vs, v, rfl, rfl, e2, by rw [← e3.len]; exact ev, ?_⟩
      exact E.nx _ σ _ G (R.write eo e1 e3.dropLast) h
  · exact h.elim
theorem ms_setI (i : Nat) {p2 p3 : Pos} (h : ME X W e d) (hix : ME X W ix dix) (hN : X.N[i]? = some x := by rfl) (hv : Vis X.env.scope x := by first | exact Or.inl rfl | exact Or.inr (Or.inl rfl) | exact Or.inr (Or.inr rfl)) (hd : (x == ("__debug__" : Str)) = false := by decide)
    (hcd : (x == ("__classdict__" : Str)) = false := by decide)
    (ha : ∀ v, assign (.Subscript (.Name x p2) ix p3) X.env v = (do
      let ov ← holding [v] (eval (.Name x p2) X.env)
      let iv ← holding [v, ov] (eval ix X.env)
      standAt p3
      holding [v, ov, iv] (setItem ov iv v)
      release [v, ov, iv] []) := by intro _; rfl)
    (hs : swapsWithSole [.Subscript (.Name x p2) ix p3] e pos.line X.env = pure false := by rfl) (hw : swappedStores [.Subscript (.Name x p2) ix p3] e X.env = pure none := by rfl) (h1 : (assignEach [.Subscript (.Name x p2) ix p3] X.env).map (·.2) = [assign (.Subscript (.Name x p2) ix p3) X.env] := by rfl) :
    MS X W (.Assign [.Subscript (.Name x p2) ix p3] e pos) (sSetI i d dix) := by
  obtain ⟨t, pa, oa⟩ := h
  obtain ⟨u, pi, oi⟩ := hix
  refine ⟨_, ps_asg pa (pg_sub (pe_var hN hv hd hcd) pi set_list ha) hs hw h1, fun H0 G0 G ρ σ H D κ R h E => ?_⟩
  unfold sSetI at h
  split at h
  · rename_i ds eo
    obtain ⟨l, vs, e1, e2, e3⟩ := ow_at R eo
    refine oa H0 G0 G ρ σ H _ _ _ R h (fun v H1 G1 r x1 hr k => ?_) (E.xok R)
    refine ⟨.ref l, e1, ?_⟩
    have R1 := R.on x1
    refine oi H0 G0 G1 ρ σ H1 _ _ _ R1 k (fun w H2 G2 z x2 hz k2 => ?_) (E.xok R1)
    obtain ⟨j, rfl, k3⟩ := asI.of k2
    have hz : RdD X.K G2 (.int j) w := hz
    unfold RdD at hz
    have x12 := x1.trans x2
    split at k3
    · rename_i d ed
      obtain ⟨jj, ej, k3⟩ := onS.of k3
      · obtain ⟨G3, x3, s3, r3⟩ := frz1_ok (Same.refl G2) x12 (hr.on x2) ed
        have R3 := R.on x3
        refine ⟨l, vs, j, jj, rfl, hz, x12.h _ _ e2, by rw [← e3.len]; exact ej, ?_⟩
        exact E.nx _ _ _ _ (R3.write eo e1 ((e3.mono x3.g).set jj r3)) k3
    · exact k3.elim
  · exact h.elim
end

/-! ### a, b = x, y -/
def sPar (i j : Nat) (a : DA) : DS := fun κ ρ => a ρ (fun rs => match rs with
  | [x, y] => (match frz1 x, frz1 y with
    | some d, some e => κ.nx ((ρ.set i (.fz d)).set j (.fz e))
    | _, _ => False)
  | _ => False) (fun nm => κ.ex nm ρ)
section
variable {X : Cx} {W : WX} {pos : Pos}
theorem ms_par (i j : Nat) {x y : Str} {a b : Expr} {da : DA} {px py pt : Pos} {kt k2 : Nat} {pt2 : Pos} (hc : X.calm = true) (hN : X.N.Nodup) (ha : MA X W [a, b] da) (hij : i ≠ j := by decide) (hi : X.N[i]? = some x := by rfl) (hj : X.N[j]? = some y := by rfl)
    (hx : X.env.scope.names.lookup x = some .local := by rfl) (hy : X.env.scope.names.lookup y = some .local := by rfl)
    (hw : swappedStores [.Tuple [.Name x px, .Name y py] kt pt] (.Tuple [a, b] k2 pt2) X.env = pure (some [x, y]) := by rfl)
    (hs : swapsWithSole [.Tuple [.Name x px, .Name y py] kt pt] (.Tuple [a, b] k2 pt2) pos.line X.env = pure false := by rfl) : MS X W (.Assign [.Tuple [.Name x px, .Name y py] kt pt] (.Tuple [a, b] k2 pt2) pos) (sPar i j da) := by
  obtain ⟨t, pa, oa⟩ := ha
  refine ⟨_, ps_par hc hN hi hj hij hx hy pa hw hs, fun H0 G0 G ρ σ H D κ R h E => ?_⟩
  refine oa H0 G0 G ρ σ H _ _ _ R h (fun vs H1 G1 rs x1 hr k => ?_) (E.xok R)
  split at k
  · rename_i x y
    split at k
    · rename_i d e ed ee
      obtain ⟨G2, x2, s2, r2⟩ := frzs_ok (ds := [d, e]) x1 hr (by unfold frzs frzs frzs; rw [ed, ee])
      unfold RdL at r2
      obtain ⟨v, w1, rfl, h1, h2⟩ := r2
      unfold RdL at h2
      obtain ⟨w, w2, rfl, h3, h4⟩ := h2
      unfold RdL at h4
      subst h4
      have R1 := R.store (r := .v d) (i := i) x2 h1 rfl
      have R2 := R1.store (r := .v e) (i := j) (Ext.refl x2.s) h3 rfl
      exact ⟨v, w, rfl, E.nx _ _ _ _ R2 k⟩
    · exact k.elim
  · exact k.elim
end

/-! ### what is walked -/
abbrev DI := List Sl → (List Dat → Prop) → (Str → Prop) → Prop
structure ItOk (K : PySem.W.Frag) (J : It) (ds : List Dat) (B G : Hp) : Prop where
  go : ∀ i H, Same B H → Same G H → i < ds.length → J.go i H
  stop : ∀ i H, Same B H → Same G H → ds.length ≤ i → J.stop i H
  yld : ∀ i H x H' Gc d, Same B H → Same G Gc → Same Gc H → ds[i]? = some d → J.yld i H x H' → ∃ G', Ext H Gc H' G' ∧ RdD K G' d x
def IOk (K : PySem.W.Frag) (c : Bool) (mg : MG) (W : WX) (wi : TI) (δ : DI) : Prop := ∀ H0 G0 G ρ σ H (R : It → Hp → Prop) κ ε, Rel K H0 G0 G ρ σ H → δ ρ κ ε →
  (∀ J H' G' ds, Ext H G H' G' → ItOk K J ds (if c = true then H' else H0) G' → κ ds → R J H') → XOk mg W H G σ ε → wi σ H R
structure MI (X : Cx) (W : WX) (c : Bool) (tg iter : Expr) (δ : DI) : Prop where
  ex : ∃ wi, PI X tg iter wi ∧ IOk X.K c X.mg W wi δ
/-- a list (or a tuple); c: one's own too -/
def stays : Bool → Rv → Bool
  | false, .o _ => false
  | _, _ => true
def iLst (c : Bool) (a : DE) : DI := fun ρ κ ε => a ρ (fun r => stays c r = true ∧ asQ r κ) ε
def iSeq (K : PySem.W.Frag) (tl : TE) : TI := fun σ H R => tl σ H fun x H1 => ∃ a, x = .ref a ∧ (((∃ xs, SqL K H1 a xs) ∧ R (Itl K a) H1) ∨ ((∃ xs, SqT K H1 a xs) ∧ R (Itt K a) H1))
theorem pi_seq {X : Cx} {tg l : Expr} {tl : TE} (hl : PE X l tl) : PI X tg l (iSeq X.K tl) := by
  refine ⟨fun pins s σ H R I h => ?_⟩
  refine thn (hl.run pins s σ H _ I h) fun v s1 ⟨x, H1, I1, r1, q1⟩ => ?_
  obtain ⟨a, e, q1⟩ := q1
  subst e
  cases r1
  rcases q1 with ⟨⟨xs, hq⟩, q⟩ | ⟨⟨xs, hq⟩, q⟩
  · obtain ⟨its, rv, p, hz⟩ := I1.list hq
    refine wpAny_pyIter_list p.isList ?_
    refine ⟨s1.heap.objs.size, [s1.heap.objs.size], _, _, H1, rfl, I1.kept (t' := s1.toks) fun b o e => Heap.get?_push_of_some _ e, turn_list a _, ⟨_, Heap.get?_push_size _ rfl, rfl, rfl⟩, fun b hb => ?_, q⟩
    have e : b = s1.heap.objs.size := by simpa using hb
    subst e
    exact I1.fpOk (Nat.le_refl _) (I1.hok.fresh (Nat.le_refl _))
  · obtain ⟨its, rv, p, hz⟩ := I1.tuple hq
    refine wpAny_pyIter_tuple (show s1.heap.IsTuple a its.toArray from p) ?_
    refine ⟨s1.heap.objs.size, [s1.heap.objs.size], _, _, H1, rfl, I1.kept (t' := s1.toks) fun b o e => Heap.get?_push_of_some _ e, turn_tuple a _, ⟨_, Heap.get?_push_size _ rfl, rfl, rfl⟩, fun b hb => ?_, q⟩
    have e : b = s1.heap.objs.size := by simpa using hb
    subst e
    exact I1.fpOk (Nat.le_refl _) (I1.hok.fresh (Nat.le_refl _))
theorem itOk_list {K : PySem.W.Frag} {a : Addr} {vs : List V} {ds : List Dat} {B G : Hp} (h : ∀ H, Same B H → Same G H → SqL K H a vs) (r : RdL K G ds vs) : ItOk K (Itl K a) ds B G := by
  refine ⟨fun i H b g hi => ?_, fun i H b g hi => ⟨vs, h H b g, by rw [← r.len]; exact hi⟩, fun i H x H' Gc d b g gc hd hy => ?_⟩
  · rw [r.len] at hi
    exact ⟨vs, _, h H b g, List.getElem?_eq_getElem hi⟩
  · obtain ⟨rfl, q⟩ := hy
    obtain ⟨v, e1, e2⟩ := r.get hd
    have e := q vs (h _ b (g.trans gc))
    rw [e1] at e
    cases e
    exact ⟨Gc, Ext.refl gc, RdD.mono g _ _ e2⟩
theorem itOk_tup {K : PySem.W.Frag} {a : Addr} {vs : List V} {ds : List Dat} {B G : Hp} (h : ∀ H, Same B H → Same G H → SqT K H a vs) (r : RdL K G ds vs) : ItOk K (Itt K a) ds B G := by
  refine ⟨fun i H b g hi => ?_, fun i H b g hi => ⟨vs, h H b g, by rw [← r.len]; exact hi⟩, fun i H x H' Gc d b g gc hd hy => ?_⟩
  · rw [r.len] at hi
    exact ⟨vs, _, h H b g, List.getElem?_eq_getElem hi⟩
  · obtain ⟨rfl, q⟩ := hy
    obtain ⟨v, e1, e2⟩ := r.get hd
    have e := q vs (h _ b (g.trans gc))
    rw [e1] at e
    cases e
    exact ⟨Gc, Ext.refl gc, RdD.mono g _ _ e2⟩
theorem itOk_rng {lo : Int} {n : Nat} {B G : Hp} : ItOk K (Itr lo n) ((List.range n).map fun (i : Nat) => Dat.int (lo + (i : Int))) B G := by
  refine ⟨fun i H b g hi => (show i < n by simpa using hi), fun i H b g hi => (show n ≤ i by simpa using hi), fun i H x H' Gc d b g gc hd hy => ?_⟩
  obtain ⟨rfl, rfl⟩ := hy
  refine ⟨Gc, Ext.refl gc, ?_⟩
  rw [List.getElem?_map] at hd
  by_cases hi : i < n
  · rw [List.getElem?_range hi] at hd
    cases hd
    unfold RdD; rfl
  · rw [List.getElem?_eq_none (by simpa using hi)] at hd
    exact nomatch hd
section
variable {X : Cx} {W : WX} {tg e a b : Expr} {d da db : DE} {c : Bool}
theorem mi_list (h : ME X W e d) : MI X W c tg e (iLst c d) := by
  obtain ⟨t, pa, oa⟩ := h
  refine ⟨_, pi_seq pa, fun H0 G0 G ρ σ H R κ ε RR h hq hx => ?_⟩
  refine oa H0 G0 G ρ σ H _ _ ε RR h (fun v H1 G1 r x1 hr k => ?_) hx
  obtain ⟨ks, k⟩ := k
  obtain ⟨ds, ed, k⟩ := asQ.of k
  have R1 := RR.on x1
  rcases ed with ed | ed
  rotate_left
  · obtain rfl := Rv.tup_of ed
    have hr : RdD X.K G1 (.tup ds) v := hr
    unfold RdD at hr
    obtain ⟨l, vs, rfl, b2, c2⟩ := hr
    exact ⟨l, rfl, .inr ⟨⟨vs, SqT.of (x1.s _ _ b2)⟩, hq _ H1 G1 ds x1 (itOk_tup (vs := vs) (fun H b g => SqT.of (g _ _ b2)) c2) k⟩⟩
  obtain ⟨l, vs, rfl, b1, c1⟩ := hr.lst x1.s R1.ext.h ed
  refine ⟨l, rfl, .inl ⟨⟨vs, b1⟩, ?_⟩⟩
  by_cases hcc : c = true
  · refine hq _ H1 G1 ds x1 ?_ k
    rw [if_pos hcc]
    exact itOk_list (vs := vs) (fun H b g => rd_mono b b1) c1
  · cases r with
    | v d0 =>
      have ed : d0 = .lst ds := ed
      subst ed
      have hr : RdD X.K G1 (.lst ds) (.ref l) := hr
      unfold RdD at hr
      obtain ⟨l', vs', e1, b2, c2⟩ := hr
      cases e1
      exact hq _ H1 G1 ds x1 (itOk_list (vs := vs') (fun H b g => rd_mono g b2) c2) k
    | n es =>
      injection ed with ed; subst ed
      obtain ⟨l', vs', e1, b2, c2, n2, g2⟩ := hr
      cases e1
      obtain ⟨y, s⟩ := x1.put n2 b2 g2
      exact hq _ H1 _ es y (itOk_list (vs := vs') (fun H b g => sq_of (g _ _ upd_same)) (c2.mono s)) k
    | b es =>
      injection ed with ed; subst ed
      obtain ⟨l', vs', e1, b2, c2⟩ := hr
      cases e1
      refine hq _ H1 G1 es x1 ?_ k
      rw [if_neg hcc]
      exact itOk_list (vs := vs') (fun H b g => rd_mono b b2) c2
    | o es =>
      cases c with
      | true => exact absurd rfl hcc
      | false => exact nomatch ks
def iTupD (a : DE) : DI := fun ρ κ ε => a ρ (fun r => match r with
  | .v (.tup ds) => κ ds
  | _ => False) ε
theorem mi_tup (h : ME X W e d) : MI X W c tg e (iTupD d) := by
  obtain ⟨t, pa, oa⟩ := h
  refine ⟨_, pi_tup pa, fun H0 G0 G ρ σ H R κ ε RR h hq hx => ?_⟩
  refine oa H0 G0 G ρ σ H _ _ ε RR h (fun v H1 G1 r x1 hr k => ?_) hx
  split at k
  · rename_i ds
    have hr : RdD X.K G1 (.tup ds) v := hr
    unfold RdD at hr
    obtain ⟨l, vs, rfl, b2, c2⟩ := hr
    exact ⟨l, rfl, ⟨vs, SqT.of (x1.s _ _ b2)⟩, hq _ H1 G1 ds x1 (itOk_tup (vs := vs) (fun H b g => SqT.of (g _ _ b2)) c2) k⟩
  · exact k.elim
def rngD (lo : Int) (n : Nat) : List Dat := (List.range n).map fun (i : Nat) => Dat.int (lo + (i : Int))
def iRng1 (a : DE) : DI := fun ρ κ ε => a ρ (fun x => asI x fun j => (-(2 ^ 62) ≤ j ∧ j < 2 ^ 62) ∧ κ (rngD 0 j.toNat)) ε
def iRng2 (a b : DE) : DI := fun ρ κ ε => a ρ (fun x => b ρ (fun y => asI x fun i => asI y fun j => (-(2 ^ 62) ≤ i ∧ i < 2 ^ 62 ∧ -(2 ^ 62) ≤ j ∧ j < 2 ^ 62) ∧ κ (rngD i (j - i).toNat)) ε) ε
theorem mi_rng1 {p pos : Pos} (hm : X.mg "range" = none) (ha : ME X W a da) (hg : Gl X "range" := by rfl) (hs : starEach [a] X.env = [(false, eval a X.env)] := by rfl) : MI X W c tg (.Call (.Name "range" p) [a] [] pos) (iRng1 da) := by
  obtain ⟨t, pa, oa⟩ := ha
  refine ⟨_, pi_range1 hg hm (pa_cons pa pa_nil hs) hs, fun H0 G0 G ρ σ H R κ ε RR h hq hx => ?_⟩
  refine oa H0 G0 G ρ σ H _ _ ε RR h (fun v H1 G1 r x1 hr k => ?_) hx
  obtain ⟨j, rfl, k1, k2⟩ := asI.of k
  have hr : RdD X.K G1 (.int j) v := hr
  unfold RdD at hr
  subst hr
  exact ⟨j, rfl, k1.1, k1.2, hq _ H1 G1 _ x1 itOk_rng k2⟩
theorem mi_rng2 {p pos : Pos} (hm : X.mg "range" = none) (ha : ME X W a da) (hb : ME X W b db) (hg : Gl X "range" := by rfl) (hs : starEach [a, b] X.env = [(false, eval a X.env), (false, eval b X.env)] := by rfl) (hs2 : starEach [b] X.env = [(false, eval b X.env)] := by rfl) : MI X W c tg (.Call (.Name "range" p) [a, b] [] pos) (iRng2 da db) := by
  obtain ⟨t, pa, oa⟩ := ha
  obtain ⟨u, pb, ob⟩ := hb
  refine ⟨_, pi_range2 hg hm (pa_cons pa (pa_cons pb pa_nil hs2) (by rw [hs, hs2])) hs hs2, fun H0 G0 G ρ σ H R κ ε RR h hq hx => ?_⟩
  refine oa H0 G0 G ρ σ H _ _ ε RR h (fun v H1 G1 r x1 hr k => ?_) hx
  refine ob H0 G0 G1 ρ σ H1 _ _ ε (RR.on x1) k (fun w H2 G2 z x2 hz k2 => ?_) (hx.on x1)
  obtain ⟨i, rfl, k3⟩ := asI.of k2
  obtain ⟨j, rfl, k4, k5⟩ := asI.of k3
  have hr : RdD X.K G1 (.int i) v := hr
  have hz : RdD X.K G2 (.int j) w := hz
  unfold RdD at hr hz
  subst hr hz
  exact ⟨i, j, rfl, k4, hq _ H2 G2 _ (x1.trans x2) itOk_rng k5⟩
end

/-! ### for -/
def sForL (g : DG) (b : DS) (κ : DEnds) : List Dat → List Sl → Prop
  | [], ρ => κ.nx ρ
  | d :: ds, ρ => g (.v d) ρ (fun ρ1 => b { κ with nx := sForL g b κ ds, ct := sForL g b κ ds, bk := κ.nx } ρ1)
def sFor (i : DI) (g : DG) (b : DS) : DS := fun κ ρ => i ρ (fun ds => sForL g b κ ds ρ) (fun nm => κ.ex nm ρ)
section
variable {X : Cx} {W : WX} {tg iter : Expr} {body : List Stmt} {i : DI} {g : DG} {b : DS} {pos : Pos}
theorem ms_for {k : Nat} {is : List Nat} (C : Cn X W k) (hi : MI X W false tg iter i) (hg : MG1 X tg is g) (hb : MSs X W body b) (hs : ∀ x, foldedSetIterable iter X.env x = pure x := by intro _; rfl) : MS X W (.For tg iter body [] pos) (sFor i g b) := by
  obtain ⟨wi, pi, oi⟩ := hi
  obtain ⟨tg', pg, og⟩ := hg
  obtain ⟨tb, pb, ob⟩ := hb
  refine ⟨_, ps_for C.hp C.hc pi pg pb hs, fun H0 G0 G ρ σ H D κ R h E => ?_⟩
  refine oi H0 G0 G ρ σ H _ _ _ R h (fun J H1 G1 ds x1 hj hk => ?_) (E.xok R)
  have R1 := R.on x1
  have E1 := E.sub R1
  have hj : ItOk X.K J ds H0 G1 := hj
  refine ⟨fun i m σ H => ∃ ρ G', Rel X.K H0 G1 G' ρ σ H ∧ m = ds.length - i ∧ sForL g b κ (ds.drop i) ρ, ⟨ds.length, ρ, G1, R1.here, rfl, by simpa using hk⟩, ?_⟩
  rintro i m σ' H' ⟨ρ', G', R', rfl, hl⟩
  by_cases hlt : i < ds.length
  · refine .inr ⟨hj.go i H' R'.ext.h (R'.ext.g.trans R'.ext.s) hlt, fun σ2 H2 => ∃ ρ2 G2, Rel X.K H0 G1 G2 ρ2 σ2 H2 ∧ sForL g b κ (ds.drop (i + 1)) ρ2, fun σ2 H2 ⟨ρ2, G2, R2, h2⟩ => ⟨ds.length - (i + 1), by omega, ρ2, G2, R2, rfl, h2⟩, fun x H2 hy => ?_⟩
    have hd : ds[i]? = some ds[i] := List.getElem?_eq_getElem hlt
    obtain ⟨G2, x2, r2⟩ := hj.yld i H' x H2 G' _ R'.ext.h R'.ext.g R'.ext.s hd hy
    rw [List.drop_eq_getElem_cons hlt] at hl
    refine og H0 G1 G' G2 ρ' σ' H' H2 (.v ds[i]) x _ _ R' x2 r2 hl fun ρ3 σ3 R3 _ k3 => ?_
    exact ob H0 G1 G2 ρ3 σ3 H2 _ _ R3 k3 ⟨fun ρ4 σ4 H4 G4 R4 k4 => ⟨ρ4, G4, R4, k4⟩, fun ρ4 σ4 H4 G4 R4 k4 => E1.nx ρ4 σ4 H4 G4 R4 k4, fun ρ4 σ4 H4 G4 R4 k4 => ⟨ρ4, G4, R4, k4⟩, E1.rt, E1.ex⟩
  · refine .inl ⟨hj.stop i H' R'.ext.h (R'.ext.g.trans R'.ext.s) (by omega), ?_⟩
    rw [List.drop_eq_nil_of_le (by omega)] at hl
    exact E1.nx ρ' σ' H' G' R' hl
end

/-! ### while -/
def wIter (c : DT) (b : DS) (κ : DEnds) : Nat → List Sl → Prop
  | 0, _ => False
  | n + 1, ρ => c ρ (fun k => if k = true then b { κ with nx := wIter c b κ n, ct := wIter c b κ n, bk := κ.nx } ρ else κ.nx ρ) (fun nm => κ.ex nm ρ)
def sWhile (c : DT) (b : DS) : DS := fun κ ρ => ∃ n, wIter c b κ n ρ
section
variable {X : Cx} {W : WX} {t : Expr} {body : List Stmt} {c : DT} {b : DS} {pos : Pos}
theorem ms_while {k : Nat} (C : Cn X W k) (hc : MT X W t c) (hb : MSs X W body b) : MS X W (.While t body [] pos) (sWhile c b) := by
  obtain ⟨tc, pc, oc⟩ := hc
  obtain ⟨tb, pb, ob⟩ := hb
  refine ⟨_, ps_while C.hp pc pb, fun H0 G0 G ρ σ H D κ R ⟨n, h⟩ E => ?_⟩
  refine ⟨fun m σ H => ∃ ρ G', Rel X.K H0 G0 G' ρ σ H ∧ wIter c b κ m ρ, ⟨n, ρ, G, R, h⟩, ?_⟩
  rintro m σ' H' ⟨ρ', G', R', hm⟩
  cases m with
  | zero => exact hm.elim
  | succ m =>
    refine oc H0 G0 G' ρ' σ' H' _ _ _ R' hm (fun kk H2 G2 x2 hk => ?_) (E.xok R')
    have R2 := R'.on x2
    by_cases hkk : kk = true
    · rw [if_pos hkk] at hk ⊢
      refine ⟨fun σ3 H3 => ∃ ρ3 G3, Rel X.K H0 G0 G3 ρ3 σ3 H3 ∧ wIter c b κ m ρ3, fun σ3 H3 h3 => ⟨m, Nat.lt_succ_self m, h3⟩, ?_⟩
      exact ob H0 G0 G2 ρ' σ' H2 _ _ R2 hk ⟨fun ρ4 σ4 H4 G4 R4 k4 => ⟨ρ4, G4, R4, k4⟩, fun ρ4 σ4 H4 G4 R4 k4 => E.nx ρ4 σ4 H4 G4 R4 k4, fun ρ4 σ4 H4 G4 R4 k4 => ⟨ρ4, G4, R4, k4⟩, E.rt, E.ex⟩
    · rw [if_neg hkk] at hk ⊢
      exact E.nx _ _ _ _ R2 hk
end
end DL
namespace DL
open PySem PySem.Spec PyProof.Rows L2
variable {K : PySem.W.Frag}

/-! ### comprehensions -/
def wipeS (ρ : List Sl) : List Nat → List Sl
  | [] => ρ
  | v :: vs => (wipeS ρ vs).set v .un
theorem wipeS_len (ρ : List Sl) : ∀ vs : List Nat, (wipeS ρ vs).length = ρ.length
  | [] => rfl
  | v :: vs => by unfold wipeS; rw [List.length_set, wipeS_len ρ vs]
theorem wipeS_at (ρ : List Sl) : ∀ (vs : List Nat) (i : Nat) (s : Sl), (wipeS ρ vs)[i]? = some s → s = Sl.un ∨ (ρ[i]? = some s ∧ i ∉ vs)
  | [], i, s, h => .inr ⟨h, by simp⟩
  | v :: vs, i, s, h => by
    unfold wipeS at h
    by_cases hv : v = i
    · subst hv
      by_cases hl : v < (wipeS ρ vs).length
      · rw [List.getElem?_set_self hl] at h; cases h; exact .inl rfl
      · rw [List.getElem?_eq_none (by rw [List.length_set]; omega)] at h; exact nomatch h
    · rw [List.getElem?_set_ne hv] at h
      rcases wipeS_at ρ vs i s h with e | ⟨a, b⟩
      · exact .inl e
      · exact .inr ⟨a, fun z => (List.mem_cons.mp z).elim (fun q => hv q.symm) b⟩
theorem Rel.wipe {H0 G0 G H : Hp} {ρ : List Sl} {σ : L2.St} (R : Rel K H0 G0 G ρ σ H) (vs : List Nat) : Rel K H0 G0 G (wipeS ρ vs) (wipe σ vs) H :=
  R.weak (wipeS_len ρ vs) (wipe_length σ vs) fun i s h => by
    rcases wipeS_at ρ vs i s h with e | ⟨a, b⟩
    · exact .inl e
    · exact .inr ⟨a, wipe_out b⟩
theorem wipe_in {σ : L2.St} : ∀ {vs : List Nat} {i : Nat}, i ∈ vs → i < σ.length → (wipe σ vs)[i]? = some none
  | v :: vs, i, h, hl => by
    unfold wipe
    by_cases hv : v = i
    · subst hv
      rw [List.getElem?_set_self (by rw [wipe_length]; exact hl)]
    · rw [List.getElem?_set_ne hv]
      exact wipe_in ((List.mem_cons.mp h).elim (fun q => absurd q.symm hv) id) hl
theorem wipe_tch {is vs : List Nat} {σ σ' : L2.St} (h : Tch is (wipe σ vs) σ') (s : ∀ i ∈ is, i ∈ vs) : wipe σ' vs = wipe σ vs := by
  apply List.ext_getElem?
  intro i
  have hl : σ'.length = σ.length := by rw [h.1, wipe_length]
  by_cases hi : i ∈ vs
  · by_cases hb : i < σ.length
    · rw [wipe_in hi (by rw [hl]; exact hb), wipe_in hi hb]
    · rw [List.getElem?_eq_none (by rw [wipe_length]; omega), List.getElem?_eq_none (by rw [wipe_length]; omega)]
  · rw [wipe_out hi, h.2 i (fun z => hi (s i z))]
def lcL (g : DG) (t : DT) (e : DE) (ρ : List Sl) (κ : Rv → Prop) (acc : List Dat) : List Dat → Prop
  | [] => κ (.n acc)
  | d :: ds => g (.v d) ρ (fun ρ1 => t ρ1 (fun b => if b = true then e ρ1 (fun r => match frz1 r with
    | some x => acc.length < sizeLine ∧ lcL g t e ρ κ (acc ++ [x]) ds
    | none => False) (fun _ => False) else lcL g t e ρ κ acc ds) (fun _ => False))
def dLc (i : DI) (g : DG) (t : DT) (e : DE) (vs : List Nat) : DE := fun ρ κ ε => i ρ (fun ds => lcL g t e (wipeS ρ vs) κ [] ds) ε
abbrev W0 : WX := fun _ _ _ _ => False
theorem XOk.none {mg : MG} {H G : Hp} {σ : L2.St} : XOk mg W0 H G σ (fun _ => False) := fun _ _ _ _ _ _ k => k
structure MTs (X : Cx) (W : WX) (es : List Expr) (δ : DT) : Prop where
  ex : ∃ t, PTs X es t ∧ TOk X.K X.mg W t δ
def tYesD : DT := fun _ κ _ => κ true
theorem mts_nil {X : Cx} {W : WX} : MTs X W [] tYesD := ⟨_, pts_nil, fun H0 G0 G ρ σ H Q κ ε R h hq hx => hq _ H G (Ext.refl R.ext.s) h⟩
theorem mts_one {X : Cx} {W : WX} {c : Expr} {p : DT} (h : MT X W c p) : MTs X W [c] p := by
  obtain ⟨t, pa, oa⟩ := h
  exact ⟨_, pts_one pa, oa⟩
theorem eok_lc {mg : MG} {W : WX} {wi : TI} {g : TG} {tt : TT} {te : TE} {vs is : List Nat} {di : DI} {dg : DG} {dt : DT} {de : DE} (hi : IOk K true mg W wi di) (hg : GOk K g is dg) (ht : TOk K mg W0 tt dt) (he : EOk K mg W0 te de) (hv : ∀ i ∈ is, i ∈ vs) : EOk K mg W (tLc wi g tt te vs) (dLc di dg dt de vs) := by
  intro H0 G0 G ρ σ H Q κ ε R h hq hx
  refine hi H0 G0 G ρ σ H _ _ ε R h (fun J H1 G1 ds x1 hj hk => ?_) hx
  have hj : ItOk K J ds H1 G1 := hj
  intro D nD
  have x0 := Ext.newH (o := HO.lst []) x1.s nD
  have nDH : H D = none := x1.h.free nD
  have nDG : G1 D = none := x1.s.free nD
  refine ⟨fun i m H' => ∃ (acc : List Dat) (vacc : List V) (G' : Hp), Ext H G H' G' ∧ Ext H1 G1 H' G' ∧ H' D = some (.lst vacc) ∧ RdL K G' acc vacc ∧ G' D = none ∧ m = ds.length - i ∧ lcL dg dt de (wipeS ρ vs) κ acc (ds.drop i),
    ⟨ds.length, [], [], G1, x1.trans x0, x0, upd_same, RdL.nil, nDG, rfl, by simpa using hk⟩, ?_⟩
  rintro i m H' ⟨acc, vacc, G', xs, xn, hD, rD, gD, rfl, hl⟩
  by_cases hlt : i < ds.length
  · refine .inr ⟨hj.go i H' xn.h (xn.g.trans xn.s) hlt, fun H2 => ∃ (acc : List Dat) (vacc : List V) (G' : Hp), Ext H G H2 G' ∧ Ext H1 G1 H2 G' ∧ H2 D = some (.lst vacc) ∧ RdL K G' acc vacc ∧ G' D = none ∧ lcL dg dt de (wipeS ρ vs) κ acc (ds.drop (i + 1)),
      fun H2 ⟨a, b, c, h1, h2, h3, h4, h5, h6⟩ => ⟨ds.length - (i + 1), by omega, a, b, c, h1, h2, h3, h4, h5, rfl, h6⟩, fun x H2 hy => ?_⟩
    have hd : ds[i]? = some ds[i] := List.getElem?_eq_getElem hlt
    obtain ⟨G2, x2, r2⟩ := hj.yld i H' x H2 G' _ xn.h xn.g xn.s hd hy
    rw [List.drop_eq_getElem_cons hlt] at hl
    have Rw := (R.on xs).wipe vs
    refine hg H0 G0 G' G2 _ _ H' H2 (.v ds[i]) x _ _ Rw x2 r2 hl fun ρ3 σ3 R3 t3 k3 => ?_
    refine ⟨wipe_tch t3 hv, ?_⟩
    refine ht H0 G0 G2 ρ3 σ3 H2 _ _ _ R3 k3 (fun b H3 G3 x3 hb => ?_) XOk.none
    have xs3 := (xs.trans x2).trans x3
    have xn3 := (xn.trans x2).trans x3
    have gD3 : G3 D = none := (x2.trans x3).f D (by rw [hD]; exact fun z => nomatch z) gD
    by_cases hbb : b = true
    · rw [if_pos hbb] at hb ⊢
      refine he H0 G0 G3 ρ3 σ3 H3 _ _ _ (R3.on x3) hb (fun y H4 G4 r x4 hr k4 => ?_) XOk.none
      split at k4
      · rename_i z ez
        obtain ⟨G5, x5, s5, r5⟩ := frz1_ok (Same.refl G4) x4 hr ez
        have hD3 := x3.h _ _ (x2.h _ _ hD)
        have hD4 : H4 D = some (.lst vacc) := x4.h _ _ hD3
        have gD5 : G5 D = none := x5.f D (by rw [hD3]; exact fun z => nomatch z) gD3
        refine ⟨vacc, hD4, by rw [← rD.len]; exact k4.1, ?_⟩
        have xs5 := xs3.trans x5
        have xn5 := xn3.trans x5
        have wr : ∀ {A : Hp}, Same A H4 → A D = none → Same A (upd H4 D (.lst (vacc ++ [y]))) := fun s n b o hb' => by
          rw [upd_ne (fun z => by rw [z, n] at hb'; exact nomatch hb')]
          exact s _ _ hb'
        refine ⟨acc ++ [z], vacc ++ [y], G5, ⟨wr xs5.h nDH, xs5.g, wr xs5.s gD5, xs5.f⟩, ⟨wr xn5.h nD, xn5.g, wr xn5.s gD5, xn5.f⟩, upd_same, ?_, gD5, k4.2⟩
        exact (rD.mono ((x2.g.trans x3.g).trans x5.g)).append (RdL.cons r5 RdL.nil)
      · exact k4.elim
    · rw [if_neg hbb] at hb ⊢
      exact ⟨acc, vacc, G3, xs3, xn3, x3.h _ _ (x2.h _ _ hD), rD.mono (x2.g.trans x3.g), gD3, hb⟩
  · refine .inl ⟨hj.stop i H' xn.h (xn.g.trans xn.s) (by omega), ?_⟩
    rw [List.drop_eq_nil_of_le (by omega)] at hl
    exact hq (.ref D) H' G' (.n acc) xs ⟨D, vacc, rfl, hD, rD, nDH, gD⟩ hl
section
variable {X : Cx} {W : WX} {elt tg iter : Expr} {ifs : List Expr} {scope : Scope} {own : List (Str × Nat)} {is : List Nat} {di : DI} {dg : DG} {dt : DT} {de : DE} {pos : Pos}
/-- one reading for all the contexts of a block -/
theorem blk_e {F : Type} {Y : F → Cx} {mg : MG} {W : WX} {e : Expr} {δ : DE} (hm : ∀ f, (Y f).mg = mg) (hk : ∀ f, (Y f).K = K) (h : ∀ f, ME (Y f) W e δ) : ∃ t, (∀ f, PE (Y f) e t) ∧ EOk K mg W t δ := by
  refine ⟨fun σ H Q => ∀ f t, PE (Y f) e t → EOk K mg W t δ → t σ H Q, fun f => ?_, fun H0 G0 G ρ σ H Q κ ε R h1 hq hx f t _ ok => ok H0 G0 G ρ σ H Q κ ε R h1 hq hx⟩
  obtain ⟨t, pe, ok⟩ := h f
  rw [hm f, hk f] at ok
  exact ⟨fun pins s σ H Q I q => pe.run pins s σ H Q I (q f t pe ok)⟩
theorem blk_t {F : Type} {Y : F → Cx} {mg : MG} {W : WX} {es : List Expr} {δ : DT} (hm : ∀ f, (Y f).mg = mg) (hk : ∀ f, (Y f).K = K) (h : ∀ f, MTs (Y f) W es δ) : ∃ t, (∀ f, PTs (Y f) es t) ∧ TOk K mg W t δ := by
  refine ⟨fun σ H Q => ∀ f t, PTs (Y f) es t → TOk K mg W t δ → t σ H Q, fun f => ?_, fun H0 G0 G ρ σ H Q κ ε R h1 hq hx f t _ ok => ok H0 G0 G ρ σ H Q κ ε R h1 hq hx⟩
  obtain ⟨t, pe, ok⟩ := h f
  rw [hm f, hk f] at ok
  exact ⟨fun pins s σ H Q I q => pe.run pins s σ H Q I (q f t pe ok)⟩
theorem blk_g {F : Type} {Y : F → Cx} {e : Expr} {is : List Nat} {γ : DG} (hk : ∀ f, (Y f).K = K) (h : ∀ f, MG1 (Y f) e is γ) : ∃ t, (∀ f, PG (Y f) e t) ∧ GOk K t is γ := by
  refine ⟨fun v σ H Q => ∀ f t, PG (Y f) e t → GOk K t is γ → t v σ H Q, fun f => ?_, fun H0 G0 Gs G ρ σ Hs H r v Q κ R x hr hg hq f t _ ok => ok H0 G0 Gs G ρ σ Hs H r v Q κ R x hr hg hq⟩
  obtain ⟨t, pe, ok⟩ := h f
  rw [hk f] at ok
  exact ⟨fun pins s σ H v u Q I ru q => pe.run pins s σ H v u Q I ru (q f t pe ok)⟩
abbrev BlkT := Shared × Hp × Addr × List (Str × Addr) × List Addr
abbrev blkX (X : Cx) (scope : Scope) (f : BlkT) : Cx := X.blk f.1 f.2.1 scope (compEnvC scope f.2.2.2.1 f.2.2.1 X.env) f.2.2.2.2
theorem lc_all {k : Nat} (C : Cn X W k) (hi : MI X W true tg iter di) (hv : ∀ i ∈ is, i ∈ own.map (·.2))
    (hg : ∀ f, MG1 (blkX X scope f) tg is dg) (ht : ∀ f, MTs (blkX X scope f) W0 ifs dt) (he : ∀ f, ME (blkX X scope f) W0 elt de) :
    ∃ wi g tt te, PI X tg iter wi ∧ (∀ s H C cl fp, PG (X.blk s H scope (compEnvC scope cl C X.env) fp) tg g) ∧ (∀ s H C cl fp, PTs (X.blk s H scope (compEnvC scope cl C X.env) fp) ifs tt) ∧ (∀ s H C cl fp, PE (X.blk s H scope (compEnvC scope cl C X.env) fp) elt te) ∧
      EOk X.K X.mg W (tLc wi g tt te (own.map (·.2))) (dLc di dg dt de (own.map (·.2))) := by
  obtain ⟨wi, pi, oi⟩ := hi
  obtain ⟨g, pg, og⟩ := blk_g (K := X.K) (Y := blkX X scope) (fun _ => rfl) hg
  obtain ⟨tt, pt, ot⟩ := blk_t (K := X.K) (Y := blkX X scope) (mg := X.mg) (fun _ => rfl) (fun _ => rfl) ht
  obtain ⟨te, pe, oe⟩ := blk_e (K := X.K) (Y := blkX X scope) (mg := X.mg) (fun _ => rfl) (fun _ => rfl) he
  exact ⟨wi, g, tt, te, pi, fun s H C cl fp => pg (s, H, C, cl, fp), fun s H C cl fp => pt (s, H, C, cl, fp), fun s H C cl fp => pe (s, H, C, cl, fp), eok_lc oi og ot oe hv⟩
theorem me_lc {k : Nat} (C : Cn X W k) (hi : MI X W true tg iter di) (ok : BlkOk X.N X.env.scope scope own) (hg : ∀ f, MG1 (blkX X scope f) tg is dg) (ht : ∀ f, MTs (blkX X scope f) W0 ifs dt) (he : ∀ f, ME (blkX X scope f) W0 elt de)
    (hv : ∀ i ∈ is, i ∈ own.map (·.2) := by decide) (hs : ∀ x, foldedSetIterable iter X.env x = pure x := by intro _; rfl) : ME X W (.ListComp elt [⟨tg, iter, ifs, 0⟩] scope pos) (dLc di dg dt de (own.map (·.2))) := by
  obtain ⟨wi, g, tt, te, h1, h2, h3, h4, h5⟩ := lc_all C hi hv hg ht he
  exact ⟨_, pe_lc C.hc C.nd h1 ok h2 h3 h4 hs, h5⟩
/-- y = [..] -/
theorem ms_setLc {k : Nat} (i : Nat) {y : Str} {py spos : Pos} (C : Cn X W k) (hi : MI X W true tg iter di) (ok : BlkOk X.N X.env.scope scope own) (hg : ∀ f, MG1 (blkX X scope f) tg is dg) (ht : ∀ f, MTs (blkX X scope f) W0 ifs dt) (he : ∀ f, ME (blkX X scope f) W0 elt de)
    (hsw : swapsWith (.ListComp elt [⟨tg, iter, ifs, 0⟩] scope pos) (some (.Name y py)) spos.line X.env = pure true) (hy : X.N[i]? = some y := by rfl) (hyl : X.env.scope.names.lookup y = some .local := by rfl) (hv : ∀ i ∈ is, i ∈ own.map (·.2) := by decide) (hs : ∀ x, foldedSetIterable iter X.env x = pure x := by intro _; rfl) :
    MS X W (.Assign [.Name y py] (.ListComp elt [⟨tg, iter, ifs, 0⟩] scope pos) spos) (sAsg (dLc di dg dt de (own.map (·.2))) (gN i)) := by
  obtain ⟨wi, g, tt, te, h1, h2, h3, h4, h5⟩ := lc_all C hi hv hg ht he
  refine ⟨_, ps_setLc C.hc C.nd hy hyl hsw h1 ok h2 h3 h4 hs, fun H0 G0 G ρ σ H D κ R h E => ?_⟩
  refine h5 H0 G0 G ρ σ H _ _ _ R h (fun v H' G' r x hr k => ?_) (E.xok R)
  unfold gN at k
  split at k
  · rename_i s e
    exact E.nx _ _ _ _ (R.store x hr e i) k
  · exact k.elim
end

/-! ### calls of the text's own defs -/
/-- what a def does, over data: the arguments, what is wanted of the value, of an exception's class -/
abbrev Fsp := List Dat → (Rv → Prop) → (Str → Prop) → Prop
/-- an argument is handed over: to be kept (true), to be read (false) -/
def arg1 : Bool → Rv → Option Dat
  | true, r => frz1 r
  | false, r => some r.dat
def conv : List Bool → List Rv → Option (List Dat)
  | [], [] => some []
  | m :: ms, r :: rs => match arg1 m r, conv ms rs with
    | some d, some ds => some (d :: ds)
    | _, _ => none
  | _, _ => none
def ArgR (K : PySem.W.Frag) (G H : Hp) (m : Bool) (d : Dat) (v : V) : Prop := match m with
  | true => RdD K G d v
  | false => RdD K G d v ∨ ∃ l vs es, d = .lst es ∧ v = .ref l ∧ SqL K H l vs ∧ RdL K G es vs
def ArgsR (K : PySem.W.Frag) (G H : Hp) : List Bool → List Dat → List V → Prop
  | [], ds, vs => ds = [] ∧ vs = []
  | m :: ms, ds, vs => ∃ d e v w, ds = d :: e ∧ vs = v :: w ∧ ArgR K G H m d v ∧ ArgsR K G H ms e w
def spOf (K : PySem.W.Frag) (mg : MG) (ms : List Bool) (S : Fsp) : Sp := fun vs H Q E => ∃ G ds, Same G H ∧ ArgsR K G H ms ds vs ∧ ∃ κ ε, S ds κ ε ∧ (∀ v H' G' r, Ext H G H' G' → RvR K H G' H H' r v → retOk r = true → κ r → Q v H') ∧
  (∀ nm cls H' G', Ext H G H' G' → mg nm = some cls → ε nm → E cls none H')
theorem ArgR.mono {G G' H : Hp} (s : Same G G') {m : Bool} {d : Dat} {v : V} (h : ArgR K G H m d v) : ArgR K G' H m d v := by
  cases m with
  | true => exact RdD.mono s _ _ h
  | false =>
    rcases h with h | ⟨l, us, es, a, b, c, f⟩
    · exact .inl (RdD.mono s _ _ h)
    · exact .inr ⟨l, us, es, a, b, c, f.mono s⟩
theorem ArgsR.mono {G G' H : Hp} (s : Same G G') : ∀ {ms : List Bool} {ds : List Dat} {vs : List V}, ArgsR K G H ms ds vs → ArgsR K G' H ms ds vs
  | [], _, _, h => h
  | m :: ms, ds, vs, h => by
    obtain ⟨d, e, v, w, h1, h2, h3, h4⟩ := h
    exact ⟨d, e, v, w, h1, h2, h3.mono s, ArgsR.mono s h4⟩
theorem arg1_ok {H0 G G1 H Gs H' : Hp} {m : Bool} {r : Rv} {v : V} {d : Dat} (s0 : Same H0 H') (s1 : Same G G1) (x : Ext H Gs H' G1) (h : RvR K H0 G H H' r v) (e : arg1 m r = some d) : ∃ G', Ext H Gs H' G' ∧ Same G1 G' ∧ ArgR K G' H' m d v := by
  cases m with
  | true => exact frz1_ok s1 x h e
  | false =>
    have e : some r.dat = some d := e
    injection e with e
    subst e
    refine ⟨G1, x, Same.refl _, ?_⟩
    cases r with
    | v d => exact .inl (RdD.mono s1 _ _ h)
    | n ds => obtain ⟨l, vs, a, b, c, _⟩ := h; exact .inr ⟨l, vs, ds, rfl, a, sq_of b, c.mono s1⟩
    | b ds => obtain ⟨l, vs, a, b, c⟩ := h; exact .inr ⟨l, vs, ds, rfl, a, rd_mono s0 b, c.mono s1⟩
    | o ds => obtain ⟨l, vs, a, b, c⟩ := h; exact .inr ⟨l, vs, ds, rfl, a, sq_of b, c.mono s1⟩
theorem conv_ok {H0 G H Gs H' : Hp} (s0 : Same H0 H') (x : Ext H Gs H' G) : ∀ (ms : List Bool) (rs : List Rv) (vs : List V) (ds : List Dat), RvsR K H0 G H H' rs vs → conv ms rs = some ds → ∃ G', Ext H Gs H' G' ∧ Same G G' ∧ ArgsR K G' H' ms ds vs := by
  intro ms
  induction ms with
  | nil =>
    intro rs vs ds h e
    cases rs with
    | nil => injection e with e; subst e; exact ⟨G, x, Same.refl _, rfl, h⟩
    | cons r rs => exact nomatch e
  | cons m ms ih =>
    intro rs vs ds h e
    cases rs with
    | nil => exact nomatch e
    | cons r rs =>
      obtain ⟨v, w, rfl, h1, h2⟩ := h
      unfold conv at e
      split at e
      · rename_i d es e1 e2
        injection e with e; subst e
        obtain ⟨G1, x1, s1, r1⟩ := ih rs w es h2 e2
        obtain ⟨G2, x2, s2, r2⟩ := arg1_ok s0 s1 x1 h1 e1
        exact ⟨G2, x2, s1.trans s2, d, es, v, w, rfl, rfl, r2, r1.mono s2⟩
      · exact nomatch e
def dCall (ms : List Bool) (S : Fsp) (a : DA) : DE := fun ρ κ ε => a ρ (fun rs => match conv ms rs with
  | some ds => S ds κ ε
  | none => False) ε
end DL
namespace DL
open PySem PySem.Spec PyProof.Rows L2
variable {K : PySem.W.Frag}

theorem sp_run {mg : MG} {W : WX} {H0 G H G1 H1 : Hp} {σ : L2.St} {ms : List Bool} {S : Fsp} {rs : List Rv} {vs : List V} {ds : List Dat} {κ : Rv → Prop} {ε : Str → Prop} {Q : VK} (s0 : Same H0 H1) (x1 : Ext H G H1 G1) (h : RvsR K H0 G1 H H1 rs vs) (e : conv ms rs = some ds) (k : S ds κ ε)
    (hq : ∀ v H' G' r, Ext H G H' G' → RvR K H0 G' H H' r v → κ r → Q v H') (hx : XOk mg W H G σ ε) : spOf K mg ms S vs H1 Q (WE W σ) := by
  obtain ⟨G2, x2, s2, r2⟩ := conv_ok s0 x1 ms rs vs ds h e
  refine ⟨G2, ds, x2.s, r2, κ, ε, k, fun v H' G' r x hr ok kr => ?_, fun nm cls H' G' x h1 h2 => hx nm cls H' G' (x2.trans x) h1 h2⟩
  refine hq v H' G' r (x2.trans x) ?_ kr
  cases r with
  | v d => exact hr
  | n ds => obtain ⟨l, vs, a, b, c, n, g⟩ := hr; exact ⟨l, vs, a, b, c, x2.h.free n, g⟩
  | b ds => exact nomatch ok
  | o ds => exact nomatch ok
section
variable {X : Cx} {W : WX} {e : Expr} {es : List Expr} {da : DA} {x : Str} {p pos : Pos} {f : Addr} {fd : FuncData} {ps : List Str} {ms : List Bool} {S : Fsp} {k j : Nat}
theorem me_call (C : Cn X W k) (F : FnOk X.prog X.w X.K X.mg X.base (L2.CX X.prog X.w) j f fd ps (spOf X.K X.mg ms S)) (hm : X.mg x = some (.ref f)) (hk : PySem.W.keepIn X.K (.ref f) = true) (hb : Binds X.K fd ps []) (ha : MA X W (e :: es) da) (hj : j ≤ k := by decide) (hg : Gl X x := by rfl)
    (hdb : (x == ("__debug__" : Str)) = false := by decide) (he : starEach (e :: es) X.env = (false, eval e X.env) :: starEach es X.env := by rfl) (hpl : (backTo pos (starEach es X.env)).any (·.1) = false := by rfl) :
    ME X W (.Call (.Name x p) (e :: es) [] pos) (dCall ms S da) := by
  obtain ⟨t, pa, oa⟩ := ha
  refine ⟨_, pe_callS F (C.hr.mono hj) hg hm hk hb (fun σ => passAt C.tk σ) pa hdb he hpl, fun H0 G0 G ρ σ H Q κ ε R h hq hx => ?_⟩
  refine oa H0 G0 G ρ σ H _ _ ε R h (fun vs H1 G1 rs x1 hr k1 => ?_) hx
  split at k1
  · rename_i ds ed
    exact sp_run (R.on x1).ext.h x1 hr ed k1 hq hx
  · exact k1.elim
end

/-! ### a def by its body -/
def startSl : List Bool → List Dat → List Sl
  | m :: ms, d :: ds => (if m = true then Sl.fz d else match d with
    | .lst es => Sl.br es
    | d => Sl.fz d) :: startSl ms ds
  | _, _ => []
theorem start_rel {H G : Hp} (s : Same G H) : ∀ {ms : List Bool} {ds : List Dat} {vs : List V}, ArgsR K G H ms ds vs → (startSl ms ds).length = vs.length ∧ ∀ (i : Nat) (t : Sl), (startSl ms ds)[i]? = some t → SlR K H G H t ((vs.map some)[i]?) ∧ ∀ es, t ≠ .ow es
  | [], ds, vs, h => by
    obtain ⟨rfl, rfl⟩ := h
    exact ⟨rfl, fun i t h => by simp [startSl] at h⟩
  | m :: ms, ds, vs, h => by
    obtain ⟨d, e, v, w, rfl, rfl, h3, h4⟩ := h
    obtain ⟨ih1, ih2⟩ := start_rel s h4
    refine ⟨by unfold startSl; rw [List.length_cons, List.length_cons, ih1], fun i t ht => ?_⟩
    cases i with
    | succ i =>
      unfold startSl at ht
      have := ih2 i t (by simpa using ht)
      simpa using this
    | zero =>
      unfold startSl at ht
      simp only [List.getElem?_cons_zero, Option.some.injEq] at ht
      cases m with
      | true =>
        rw [if_pos rfl] at ht
        subst ht
        exact ⟨⟨v, rfl, h3⟩, fun es => fun z => nomatch z⟩
      | false =>
        rw [if_neg Bool.false_ne_true] at ht
        have h3 : RdD K G d v ∨ ∃ l vs es, d = .lst es ∧ v = .ref l ∧ SqL K H l vs ∧ RdL K G es vs := h3
        by_cases hd : ∃ es, d = .lst es
        · obtain ⟨es, rfl⟩ := hd
          subst ht
          refine ⟨?_, fun es => fun z => nomatch z⟩
          rcases h3 with h3 | ⟨l, us, es', a, b, c, f⟩
          · unfold RdD at h3
            obtain ⟨a, us, e1, e2, e3⟩ := h3
            exact ⟨a, us, by rw [e1]; rfl, rd_mono s e2, e3⟩
          · cases a
            exact ⟨l, us, by rw [b]; rfl, c, f⟩
        · have ht' : t = .fz d := by
            rw [← ht]
            cases d with
            | lst es => exact absurd ⟨es, rfl⟩ hd
            | _ => rfl
          subst ht'
          refine ⟨⟨v, rfl, ?_⟩, fun es => fun z => nomatch z⟩
          rcases h3 with h3 | ⟨l, us, es', a, _⟩
          · exact h3
          · exact absurd ⟨es', a⟩ hd
theorem args_len {G H : Hp} : ∀ {ms : List Bool} {ds : List Dat} {vs : List V}, ArgsR K G H ms ds vs → vs.length = ms.length
  | [], ds, vs, h => by
    obtain ⟨rfl, rfl⟩ := h; rfl
  | m :: ms, ds, vs, h => by
    obtain ⟨d, e, v, w, rfl, rfl, h3, h4⟩ := h
    rw [List.length_cons, List.length_cons, args_len h4]
/-- the slots at the entry: n names in all -/
def entry (ms : List Bool) (n : Nat) (ds : List Dat) : List Sl := startSl ms ds ++ List.replicate (n - ms.length) .un
theorem entry_rel {H G : Hp} {ms : List Bool} {ds : List Dat} {vs : List V} {N : List Str} (s : Same G H) (h : ArgsR K G H ms ds vs) : Rel K H G G (entry ms N.length ds) (L2.start N vs) H := by
  obtain ⟨h1, h2⟩ := start_rel s h
  have hl := args_len h
  have at_ : ∀ (i : Nat) (t : Sl), (entry ms N.length ds)[i]? = some t → SlR K H G H t (L2.start N vs)[i]? ∧ ∀ es, t ≠ .ow es := fun i t ht => by
    unfold entry at ht
    unfold L2.start
    by_cases hi : i < (startSl ms ds).length
    · rw [List.getElem?_append_left hi] at ht
      rw [List.getElem?_append_left (by rw [List.length_map, ← h1]; exact hi)]
      exact h2 i t ht
    · rw [List.getElem?_append_right (by omega)] at ht
      rw [List.getElem?_replicate] at ht
      split at ht
      · cases ht; exact ⟨trivial, fun es => fun z => nomatch z⟩
      · exact nomatch ht
  refine ⟨Ext.refl s, ?_, fun i t ht => (at_ i t ht).1, fun i j ds' es l hi hj _ _ => absurd rfl ((at_ i _ hi).2 ds')⟩
  unfold entry L2.start
  rw [List.length_append, List.length_append, List.length_replicate, List.length_replicate, List.length_map, h1, hl]
def endsOf (κ : Rv → Prop) (ε : Str → Prop) : DEnds := { nx := fun _ => κ (.v .non), rt := κ, bk := fun _ => False, ct := fun _ => False, ex := fun nm _ => ε nm }
section
variable {P : Program} {w : World} {K : PySem.W.Frag} {mg : MG} {base : Heap}
/-- what stands around a body -/
abbrev WE0 (E : XK) : WX := fun cls d _ H => E cls d H
theorem fn_dl {x qual : Str} {st : Stmt} {f : Addr} {fd : FuncData} {N ps : List Str} {k : Nat} {ms : List Bool} {S : Fsp} {δ : DS} (F : Fun K x qual st f fd) (sc : FnScope N ps (defScope st)) (hms : ms.length = ps.length)
    (hb : ∀ (cdv : Value) (A : Around) (outer : List Env) (s : Shared) (H : Hp) (E : XK), Cn (cxOf (L2.CX P w) P w K mg base N qual (defScope st) f cdv A outer s H E) (WE0 E) k → MSs (cxOf (L2.CX P w) P w K mg base N qual (defScope st) f cdv A outer s H E) (WE0 E) (defBody st) δ)
    (sem : ∀ ds κ ε, S ds κ ε → δ (endsOf κ ε) (entry ms N.length ds)) : FnOk P w K mg base (L2.CX P w) (k + 1) f fd ps (spOf K mg ms S) := by
  refine F.okX sc (fun vs H Q E ⟨G, ds, _, h, _⟩ => by rw [args_len h, hms]) (fun cdv A outer s H vs Q E hr hsp => ?_)
  obtain ⟨G, ds, s1, h1, κ, ε, hS, hq, hx⟩ := hsp
  have C : Cn (cxOf (L2.CX P w) P w K mg base N qual (defScope st) f cdv A outer s H E) (WE0 E) k := ⟨takes_of rfl rfl rfl rfl, passes_of rfl, rfl, hr, sc.nd⟩
  obtain ⟨t, pt, ot⟩ := hb cdv A outer s H E C
  refine ⟨t, pt, ot H G G _ _ H _ (endsOf κ ε) (entry_rel s1 h1) (sem ds κ ε hS) ?_⟩
  refine ⟨fun ρ σ H' G' R k => ?_, fun _ _ _ _ _ k => k.elim, fun _ _ _ _ _ k => k.elim, fun v H' G' r x hr ok k => hq v H' G' r x hr ok k, fun nm cls ρ σ H' G' R h k => hx nm cls H' G' R.ext h k⟩
  exact hq _ H' G' (.v .non) R.ext (by show RdD K _ _ _; unfold RdD; rfl) rfl k
end
end DL
namespace DL
open PySem PySem.Spec PyProof.Rows L2
variable {K : PySem.W.Frag}

/-! ### built-in functions -/
def OpA (K : PySem.W.Frag) (r : List V → Hp → VK → Prop) (k : List Rv → (Rv → Prop) → Prop) : Prop :=
  ∀ (H0 G Hs H : Hp) (rs : List Rv) (vs : List V) (Q : VK) (κ : Rv → Prop), Same G H → Same H0 H → Same Hs H → RvsR K H0 G Hs H rs vs → k rs κ →
    (∀ w H' G' z, Ext H G H' G' → RvR K H0 G' H H' z w → κ z → Q w H') → r vs H Q
def dB (k : List Rv → (Rv → Prop) → Prop) (a : DA) : DE := fun ρ κ ε => a ρ (fun rs => k rs κ) ε
theorem eok_B {mg : MG} {W : WX} {t : TA} {a : DA} {r : List V → Hp → VK → Prop} {k : List Rv → (Rv → Prop) → Prop} (hr : OpA K r k) (ha : AOk K mg W t a) : EOk K mg W (tCB r t) (dB k a) := by
  intro H0 G0 G ρ σ H Q κ ε R h hq hx
  refine ha H0 G0 G ρ σ H _ _ ε R h (fun vs H1 G1 rs x1 h1 k1 => ?_) hx
  exact hr H0 G1 H H1 rs vs Q κ x1.s (R.on x1).ext.h x1.h h1 k1 fun w H' G' z x2 h2 k2 => hq w H' G' z (x1.trans x2) (h2.back x1.h) k2
section
variable {X : Cx} {W : WX} {x : Str} {p pos : Pos} {e : Expr} {es : List Expr} {da : DA} {id T : String} {r : List V → Hp → VK → Prop} {k : List Rv → (Rv → Prop) → Prop}
theorem me_B (hc : CallR X (.builtin id) r) (hr : OpA X.K r k) (hv : bootBuiltins x = some (.builtin id)) (hm : X.mg x = none) (ha : MA X W (e :: es) da) (hg : Gl X x := by rfl) (hn : x ≠ "__name__" := by decide) (hdb : (x == ("__debug__" : Str)) = false := by decide)
    (he : starEach (e :: es) X.env = (false, eval e X.env) :: starEach es X.env := by rfl) (hpl : (backTo pos (starEach es X.env)).any (·.1) = false := by rfl) : ME X W (.Call (.Name x p) (e :: es) [] pos) (dB k da) := by
  obtain ⟨t, pa, oa⟩ := ha
  exact ⟨_, pe_callB hc hg hm hv pa hn hdb he hpl, eok_B hr oa⟩
theorem me_Ty (hc : CallR X (.type T) r) (hr : OpA X.K r k) (hv : bootBuiltins x = some (.type T)) (hm : X.mg x = none) (ha : MA X W (e :: es) da) (hg : Gl X x := by rfl) (hn : x ≠ "__name__" := by decide) (hdb : (x == ("__debug__" : Str)) = false := by decide)
    (he : starEach (e :: es) X.env = (false, eval e X.env) :: starEach es X.env := by rfl) (hpl : (backTo pos (starEach es X.env)).any (·.1) = false := by rfl) : ME X W (.Call (.Name x p) (e :: es) [] pos) (dB k da) := by
  obtain ⟨t, pa, oa⟩ := ha
  exact ⟨_, pe_callTy hc hg hm hv pa hn hdb he hpl, eok_B hr oa⟩
end
theorem rvs1 {H0 G Hs H : Hp} {x : Rv} {vs : List V} (h : RvsR K H0 G Hs H [x] vs) : ∃ v, vs = [v] ∧ RvR K H0 G Hs H x v := by
  obtain ⟨v, w, rfl, a, b⟩ := h
  have b : w = [] := b
  subst b
  exact ⟨v, rfl, a⟩
theorem rvs2 {H0 G Hs H : Hp} {x y : Rv} {vs : List V} (h : RvsR K H0 G Hs H [x, y] vs) : ∃ v u, vs = [v, u] ∧ RvR K H0 G Hs H x v ∧ RvR K H0 G Hs H y u := by
  obtain ⟨v, w, rfl, a, b⟩ := h
  obtain ⟨u, rfl, c⟩ := rvs1 b
  exact ⟨v, u, rfl, a, c⟩
theorem rvI {H0 G Hs H : Hp} {i : Int} {v : V} (h : RvR K H0 G Hs H (.v (.int i)) v) : v = .int i := by
  have h : RdD K G (.int i) v := h
  unfold RdD at h; exact h
theorem rvB {H0 G Hs H : Hp} {i : Bool} {v : V} (h : RvR K H0 G Hs H (.v (.bl i)) v) : v = .bl i := by
  have h : RdD K G (.bl i) v := h
  unfold RdD at h; exact h
theorem toI {H0 G Hs H : Hp} {i : Int} : RvR K H0 G Hs H (.v (.int i)) (.int i) := by show RdD K _ _ _; unfold RdD; rfl
theorem toB {H0 G Hs H : Hp} {i : Bool} : RvR K H0 G Hs H (.v (.bl i)) (.bl i) := by show RdD K _ _ _; unfold RdD; rfl
/-- a list or a tuple, read -/
theorem rvQ {K : PySem.W.Frag} {H0 G Hs H : Hp} {r : Rv} {v : V} {ds : List Dat} (s : Same G H) (s0 : Same H0 H) (h : RvR K H0 G Hs H r v) (e : r.dat = .lst ds ∨ r.dat = .tup ds) : ∃ l vs, v = .ref l ∧ (SqL K H l vs ∨ SqT K H l vs) ∧ RdL K G ds vs := by
  rcases e with e | e
  · obtain ⟨l, vs, a, b, c⟩ := h.lst s s0 e
    exact ⟨l, vs, a, .inl b, c⟩
  · cases r with
    | v d0 =>
      have e : d0 = .tup ds := e
      subst e
      have h : RdD K G (.tup ds) v := h
      unfold RdD at h
      obtain ⟨l, vs, a, b, c⟩ := h
      exact ⟨l, vs, a, .inr (SqT.of (s _ _ b)), c⟩
    | n _ => exact nomatch e
    | b _ => exact nomatch e
    | o _ => exact nomatch e
def kLen : List Rv → (Rv → Prop) → Prop := fun rs κ => match rs with
  | [x] => asQ x fun ds => κ (.v (.int (ds.length : Int)))
  | _ => False
def kAbs : List Rv → (Rv → Prop) → Prop := fun rs κ => match rs with
  | [x] => asI x fun i => κ (.v (.int (if i < 0 then -i else i)))
  | _ => False
def kMax2 : List Rv → (Rv → Prop) → Prop := fun rs κ => match rs with
  | [x, y] => asI x fun i => asI y fun j => κ (.v (.int (if j > i then j else i)))
  | _ => False
def kMin2 : List Rv → (Rv → Prop) → Prop := fun rs κ => match rs with
  | [x, y] => asI x fun i => asI y fun j => κ (.v (.int (if j < i then j else i)))
  | _ => False
def kInt1 : List Rv → (Rv → Prop) → Prop := fun rs κ => match rs with
  | [.v (.int i)] => κ (.v (.int i))
  | [.v (.bl k)] => κ (.v (.int (if k then 1 else 0)))
  | _ => False
def kList : List Rv → (Rv → Prop) → Prop := fun rs κ => match rs with
  | [x] => asQ x fun ds => κ (.n ds)
  | _ => False
def kDivmod : List Rv → (Rv → Prop) → Prop := fun rs κ => match rs with
  | [x, y] => asI x fun i => asI y fun j => DivP i j ∧ κ (.v (.tup [.int (i / j), .int (i % j)]))
  | _ => False
section
variable {X : Cx}
theorem opa_len {K : PySem.W.Frag} : OpA K (fun xs H Q => ∃ p ys, xs = [.ref p] ∧ (SqL K H p ys ∨ SqT K H p ys) ∧ Q (.int ys.length) H) kLen := by
  intro H0 G Hs H rs vs Q κ s s0 sh h k q
  unfold kLen at k
  split at k
  · obtain ⟨v, rfl, h1⟩ := rvs1 h
    obtain ⟨ds, e, k1⟩ := asQ.of k
    obtain ⟨l, us, rfl, a, b⟩ := rvQ (K := K) s s0 h1 e
    exact ⟨l, us, rfl, a, by rw [← b.len]; exact q _ H G (.v (.int _)) (Ext.refl s) toI k1⟩
  · exact k.elim
theorem opa_list {K : PySem.W.Frag} : OpA K (fun xs H Q => ∃ p ys, xs = [.ref p] ∧ (SqL K H p ys ∨ SqT K H p ys) ∧ ∀ l, H l = none → Q (.ref l) (upd H l (.lst ys))) kList := by
  intro H0 G Hs H rs vs Q κ s s0 sh h k q
  unfold kList at k
  split at k
  · obtain ⟨v, rfl, h1⟩ := rvs1 h
    obtain ⟨ds, e, k1⟩ := asQ.of k
    obtain ⟨l, us, rfl, a, b⟩ := rvQ (K := K) s s0 h1 e
    exact ⟨l, us, rfl, a, fun p np => q _ _ _ (.n ds) (Ext.newH s np) ⟨p, us, rfl, upd_same, b, np, s.free np⟩ k1⟩
  · exact k.elim
theorem opa_abs : OpA K (fun xs H Q => ∃ i, xs = [.int i] ∧ Q (.int (if i < 0 then -i else i)) H) kAbs := by
  intro H0 G Hs H rs vs Q κ s s0 sh h k q
  unfold kAbs at k
  split at k
  · obtain ⟨v, rfl, h1⟩ := rvs1 h
    obtain ⟨i, rfl, k1⟩ := asI.of k
    exact ⟨i, by rw [rvI h1], q _ H G (.v (.int _)) (Ext.refl s) toI k1⟩
  · exact k.elim
theorem opa_max2 : OpA K (fun xs H Q => ∃ i j, xs = [.int i, .int j] ∧ Q (.int (if j > i then j else i)) H) kMax2 := by
  intro H0 G Hs H rs vs Q κ s s0 sh h k q
  unfold kMax2 at k
  split at k
  · obtain ⟨v, u, rfl, h1, h2⟩ := rvs2 h
    obtain ⟨i, rfl, k1⟩ := asI.of k
    obtain ⟨j, rfl, k2⟩ := asI.of k1
    exact ⟨i, j, by rw [rvI h1, rvI h2], q _ H G (.v (.int _)) (Ext.refl s) toI k2⟩
  · exact k.elim
theorem opa_min2 : OpA K (fun xs H Q => ∃ i j, xs = [.int i, .int j] ∧ Q (.int (if j < i then j else i)) H) kMin2 := by
  intro H0 G Hs H rs vs Q κ s s0 sh h k q
  unfold kMin2 at k
  split at k
  · obtain ⟨v, u, rfl, h1, h2⟩ := rvs2 h
    obtain ⟨i, rfl, k1⟩ := asI.of k
    obtain ⟨j, rfl, k2⟩ := asI.of k1
    exact ⟨i, j, by rw [rvI h1, rvI h2], q _ H G (.v (.int _)) (Ext.refl s) toI k2⟩
  · exact k.elim
theorem opa_int1 : OpA K (fun xs H Q => (∃ i, xs = [.int i] ∧ Q (.int i) H) ∨ ∃ k, xs = [.bl k] ∧ Q (.int (if k then 1 else 0)) H) kInt1 := by
  intro H0 G Hs H rs vs Q κ s s0 sh h k q
  unfold kInt1 at k
  split at k
  · rename_i i
    obtain ⟨v, rfl, h1⟩ := rvs1 h
    exact .inl ⟨i, by rw [rvI h1], q _ H G (.v (.int _)) (Ext.refl s) toI k⟩
  · rename_i b
    obtain ⟨v, rfl, h1⟩ := rvs1 h
    exact .inr ⟨b, by rw [rvB h1], q _ H G (.v (.int _)) (Ext.refl s) toI k⟩
  · exact k.elim
theorem opa_divmod : OpA K (fun xs H Q => ∃ i j, xs = [.int i, .int j] ∧ CDivP i j ∧ ∀ p, H p = none → Q (.ref p) (upd H p (.tup [.int (i / j), .int (i % j)]))) kDivmod := by
  intro H0 G Hs H rs vs Q κ s s0 sh h k q
  unfold kDivmod at k
  split at k
  · obtain ⟨v, u, rfl, h1, h2⟩ := rvs2 h
    obtain ⟨i, rfl, k1⟩ := asI.of k
    obtain ⟨j, rfl, k2, k3⟩ := asI.of k1
    refine ⟨i, j, by rw [rvI h1, rvI h2], ⟨k2.1, PyProof.noPylong_of_log2 k2.2⟩, fun p np => ?_⟩
    refine q _ _ _ (.v (.tup _)) (Ext.newG (o := .tup _) s np) ?_ k3
    show RdD K _ _ _
    unfold RdD
    exact ⟨p, _, rfl, upd_same, RdL.cons (by unfold RdD; rfl) (RdL.cons (by unfold RdD; rfl) RdL.nil)⟩
  · exact k.elim
variable {W : WX} {p pos : Pos} {e : Expr} {es : List Expr} {da : DA}
theorem me_len (hm : X.mg "len" = none) (ha : MA X W (e :: es) da) (hg : Gl X "len" := by rfl) (he : starEach (e :: es) X.env = (false, eval e X.env) :: starEach es X.env := by rfl) (hpl : (backTo pos (starEach es X.env)).any (·.1) = false := by rfl) : ME X W (.Call (.Name "len" p) (e :: es) [] pos) (dB kLen da) :=
  me_B call_len_seq opa_len PySem.boot_len hm ha hg (by decide) (by decide) he hpl
theorem me_abs (hm : X.mg "abs" = none) (ha : MA X W (e :: es) da) (hg : Gl X "abs" := by rfl) (he : starEach (e :: es) X.env = (false, eval e X.env) :: starEach es X.env := by rfl) (hpl : (backTo pos (starEach es X.env)).any (·.1) = false := by rfl) : ME X W (.Call (.Name "abs" p) (e :: es) [] pos) (dB kAbs da) :=
  me_B call_abs opa_abs (by decide +kernel) hm ha hg (by decide) (by decide) he hpl
theorem me_max2 (hc : X.calm = true) (hm : X.mg "max" = none) (ha : MA X W (e :: es) da) (hg : Gl X "max" := by rfl) (he : starEach (e :: es) X.env = (false, eval e X.env) :: starEach es X.env := by rfl) (hpl : (backTo pos (starEach es X.env)).any (·.1) = false := by rfl) : ME X W (.Call (.Name "max" p) (e :: es) [] pos) (dB kMax2 da) :=
  me_B (call_max2 hc) opa_max2 (by decide +kernel) hm ha hg (by decide) (by decide) he hpl
theorem me_min2 (hc : X.calm = true) (hm : X.mg "min" = none) (ha : MA X W (e :: es) da) (hg : Gl X "min" := by rfl) (he : starEach (e :: es) X.env = (false, eval e X.env) :: starEach es X.env := by rfl) (hpl : (backTo pos (starEach es X.env)).any (·.1) = false := by rfl) : ME X W (.Call (.Name "min" p) (e :: es) [] pos) (dB kMin2 da) :=
  me_B (call_min2 hc) opa_min2 (by decide +kernel) hm ha hg (by decide) (by decide) he hpl
theorem me_divmod (hm : X.mg "divmod" = none) (ha : MA X W (e :: es) da) (hg : Gl X "divmod" := by rfl) (he : starEach (e :: es) X.env = (false, eval e X.env) :: starEach es X.env := by rfl) (hpl : (backTo pos (starEach es X.env)).any (·.1) = false := by rfl) : ME X W (.Call (.Name "divmod" p) (e :: es) [] pos) (dB kDivmod da) :=
  me_B call_divmodW opa_divmod (by decide +kernel) hm ha hg (by decide) (by decide) he hpl
theorem me_toInt (hm : X.mg "int" = none) (ha : MA X W (e :: es) da) (hg : Gl X "int" := by rfl) (he : starEach (e :: es) X.env = (false, eval e X.env) :: starEach es X.env := by rfl) (hpl : (backTo pos (starEach es X.env)).any (·.1) = false := by rfl) : ME X W (.Call (.Name "int" p) (e :: es) [] pos) (dB kInt1 da) :=
  me_Ty call_int1 opa_int1 (by decide +kernel) hm ha hg (by decide) (by decide) he hpl
theorem me_list (hm : X.mg "list" = none) (ha : MA X W (e :: es) da) (hg : Gl X "list" := by rfl) (he : starEach (e :: es) X.env = (false, eval e X.env) :: starEach es X.env := by rfl) (hpl : (backTo pos (starEach es X.env)).any (·.1) = false := by rfl) : ME X W (.Call (.Name "list" p) (e :: es) [] pos) (dB kList da) :=
  me_Ty call_list_of opa_list (by decide +kernel) hm ha hg (by decide) (by decide) he hpl
end

/-! ### isinstance of built-in types -/
inductive TyN | int | bool | str | list | tuple | dict
def TyN.nm : TyN → String
  | .int => "int" | .bool => "bool" | .str => "str" | .list => "list" | .tuple => "tuple" | .dict => "dict"
def isTy : TyN → Dat → Bool
  | .int, .int _ => true
  | .int, .bl _ => true
  | .bool, .bl _ => true
  | .str, .str _ => true
  | .list, .lst _ => true
  | .tuple, .tup _ => true
  | .dict, .dic _ => true
  | _, _ => false
def tyD : Dat → String
  | .non => "NoneType" | .bl _ => "bool" | .int _ => "int" | .str _ => "str" | .tup _ => "tuple" | .lst _ => "list" | .dic _ => "dict"
inductive Tag | non | bl | int | str | tup | lst | dic
def Tag.of : Dat → Tag
  | .non => .non | .bl _ => .bl | .int _ => .int | .str _ => .str | .tup _ => .tup | .lst _ => .lst | .dic _ => .dic
def Tag.dat : Tag → Dat
  | .non => .non | .bl => .bl true | .int => .int 0 | .str => .str Str.empty | .tup => .tup [] | .lst => .lst [] | .dic => .dic []
theorem kit_tag (T : TyN) (t : Tag) : kitB (tyD t.dat) T.nm = some (isTy T t.dat) := by
  cases T <;> cases t <;> decide +kernel
theorem kit_isTy (T : TyN) (d : Dat) : kitB (tyD d) T.nm = some (isTy T d) := by
  have h := kit_tag T (Tag.of d)
  cases T <;> cases d <;> exact h
theorem rd_ty {K : PySem.W.Frag} {H : Hp} : ∀ (d : Dat) (v : V), RdD K H d v → TyX K H v (.type (tyD d))
  | .non, v, h => by unfold RdD at h; subst h; exact .base .non
  | .bl b, v, h => by unfold RdD at h; subst h; exact .base (.bl b)
  | .int b, v, h => by unfold RdD at h; subst h; exact .base (.int b)
  | .str b, v, h => by unfold RdD at h; subst h; exact .base (.str b)
  | .tup ds, v, h => by
    unfold RdD at h
    obtain ⟨a, vs, rfl, g, _⟩ := h
    exact .base (.tup g)
  | .lst ds, v, h => by
    unfold RdD at h
    obtain ⟨a, vs, rfl, (g | ⟨o, g⟩) | ⟨o, its, n, g, c, _⟩, _⟩ := h
    · exact .base (.lst g)
    · exact .base (.frz g)
    · exact .kList g c
  | .dic ds, v, h => by
    unfold RdD at h
    obtain ⟨a, rfl, g⟩ := h
    exact .base (.dK g)
def dIsi (T : TyN) (a : DE) : DE := fun ρ κ ε => a ρ (fun x => κ (.v (.bl (isTy T x.dat)))) ε
section
variable {X : Cx} {W : WX} {p p2 pos : Pos} {e : Expr} {d : DE}
theorem me_isi (T : TyN) {x : Str} (hv : bootBuiltins x = some (.type T.nm)) (hm : X.mg "isinstance" = none) (hx : X.mg x = none) (h : ME X W e d) (hg : Gl X "isinstance" := by rfl) (hgx : Gl X x := by rfl) (hn : x ≠ "__name__" := by decide) (hdb : (x == ("__debug__" : Str)) = false := by decide)
    (he : starEach [e, .Name x p2] X.env = (false, eval e X.env) :: starEach [.Name x p2] X.env := by rfl) (he2 : starEach [.Name x p2] X.env = (false, eval (.Name x p2) X.env) :: starEach [] X.env := by rfl) (hpl : (backTo pos (starEach [.Name x p2] X.env)).any (·.1) = false := by rfl) :
    ME X W (.Call (.Name "isinstance" p) [e, .Name x p2] [] pos) (dIsi T d) := by
  obtain ⟨t, pa, oa⟩ := h
  refine ⟨_, pe_callB call_isi hg hm PyProof.Rows.boot_isinstance (pa_cons pa (pa_cons (pe_bltn (v := .ty T.nm) hgx hx hv rfl hn hdb) pa_nil he2) he) (by decide) (by decide) he hpl, fun H0 G0 G ρ σ H Q κ ε R h hq hx => ?_⟩
  refine oa H0 G0 G ρ σ H _ _ ε R h (fun v H1 G1 r x1 h1 k1 => ?_) hx
  refine ⟨v, .ty T.nm, .type (tyD r.dat), .type T.nm, isTy T r.dat, rfl, .ty _, rd_ty _ _ (h1.read x1.s (R.on x1).ext.h), kit_ty (kit_isTy T r.dat), ?_⟩
  exact hq _ H1 G1 (.v (.bl _)) x1 toB k1
end
end DL
namespace DL
open PySem PySem.Spec PyProof.Rows L2
variable {K : PySem.W.Frag}

/-- a def of the text that may be called -/
structure Cal (P : Program) (w : World) (K : PySem.W.Frag) (mg : MG) (base : Heap) (j : Nat) (x : Str) (ps : List Str) (ms : List Bool) (S : Fsp) : Prop where
  ex : ∃ f fd, FnOk P w K mg base (L2.CX P w) j f fd ps (spOf K mg ms S) ∧ mg x = some (.ref f) ∧ PySem.W.keepIn K (.ref f) = true ∧ Binds K fd ps []
theorem Cal.mk' {P : Program} {w : World} {K : PySem.W.Frag} {mg : MG} {base : Heap} {j : Nat} {x : Str} {ps : List Str} {ms : List Bool} {S : Fsp} {f : Addr} {fd : FuncData} (F : FnOk P w K mg base (L2.CX P w) j f fd ps (spOf K mg ms S)) (h1 : mg x = some (.ref f)) (h2 : PySem.W.keepIn K (.ref f) = true) (h3 : Binds K fd ps []) : Cal P w K mg base j x ps ms S := ⟨f, fd, F, h1, h2, h3⟩
theorem Cn.blk {X : Cx} {W : WX} {k : Nat} {scope : Scope} {f : BlkT} (C : Cn X W k) : Cn (blkX X scope f) DL.W0 k := ⟨takes0, PassesOwn.never, C.hc, C.hr, C.nd⟩
section
variable {X : Cx} {W : WX} {e : Expr} {es : List Expr} {da : DA} {x : Str} {p pos : Pos} {ps : List Str} {ms : List Bool} {S : Fsp} {k j : Nat}
theorem me_callC (C : Cn X W k) (F : Cal X.prog X.w X.K X.mg X.base j x ps ms S) (ha : MA X W (e :: es) da) (hj : j ≤ k := by decide) (hg : Gl X x := by rfl)
    (hdb : (x == ("__debug__" : Str)) = false := by decide) (he : starEach (e :: es) X.env = (false, eval e X.env) :: starEach es X.env := by rfl) (hpl : (backTo pos (starEach es X.env)).any (·.1) = false := by rfl) :
    ME X W (.Call (.Name x p) (e :: es) [] pos) (dCall ms S da) := by
  obtain ⟨f, fd, F, h1, h2, h3⟩ := F
  exact me_call C F h1 h2 h3 ha hj hg hdb he hpl
end

/-! ### range(a, b, c) -/
theorem itOk_rngC {lo c : Int} {n : Nat} {B G : Hp} : ItOk K (Itc lo c n) ((List.range n).map fun (i : Nat) => Dat.int (lo + (i : Int) * c)) B G := by
  refine ⟨fun i H b g hi => (show i < n by simpa using hi), fun i H b g hi => (show n ≤ i by simpa using hi), fun i H x H' Gc d b g gc hd hy => ?_⟩
  obtain ⟨rfl, rfl⟩ := hy
  refine ⟨Gc, Ext.refl gc, ?_⟩
  rw [List.getElem?_map] at hd
  by_cases hi : i < n
  · rw [List.getElem?_range hi] at hd
    cases hd
    unfold RdD; rfl
  · rw [List.getElem?_eq_none (by simpa using hi)] at hd
    exact nomatch hd
def rngDC (lo c : Int) (n : Nat) : List Dat := (List.range n).map fun (i : Nat) => Dat.int (lo + (i : Int) * c)
def iRng3 (a b c : DE) : DI := fun ρ κ ε => a ρ (fun x => b ρ (fun y => c ρ (fun z => asI x fun i => asI y fun j => asI z fun k => ∃ n, RgC i j k n ∧ κ (rngDC i k n)) ε) ε) ε
section
variable {X : Cx} {W : WX} {tg a b d : Expr} {da db dd : DE} {c : Bool}
theorem mi_rng3 {p pos : Pos} (hm : X.mg "range" = none) (ha : ME X W a da) (hb : ME X W b db) (hd : ME X W d dd) (hg : Gl X "range" := by rfl) (hs : starEach [a, b, d] X.env = (false, eval a X.env) :: starEach [b, d] X.env := by rfl) (hpl : (backTo pos (starEach [b, d] X.env)).any (·.1) = false := by rfl)
    (hs2 : starEach [b, d] X.env = (false, eval b X.env) :: starEach [d] X.env := by rfl) (hs3 : starEach [d] X.env = (false, eval d X.env) :: starEach [] X.env := by rfl) : MI X W c tg (.Call (.Name "range" p) [a, b, d] [] pos) (iRng3 da db dd) := by
  obtain ⟨t, pa, oa⟩ := ha
  obtain ⟨u, pb, ob⟩ := hb
  obtain ⟨w, pd, od⟩ := hd
  refine ⟨_, pi_range3 hg hm (pa_cons pa (pa_cons pb (pa_cons pd pa_nil hs3) hs2) hs) hs hpl, fun H0 G0 G ρ σ H R κ ε RR h hq hx => ?_⟩
  refine oa H0 G0 G ρ σ H _ _ ε RR h (fun v H1 G1 r x1 hr k => ?_) hx
  refine ob H0 G0 G1 ρ σ H1 _ _ ε (RR.on x1) k (fun w H2 G2 z x2 hz k2 => ?_) (hx.on x1)
  refine od H0 G0 G2 ρ σ H2 _ _ ε ((RR.on x1).on x2) k2 (fun w3 H3 G3 z3 x3 hz3 k3 => ?_) ((hx.on x1).on x2)
  obtain ⟨i, rfl, k31⟩ := asI.of k3
  obtain ⟨j, rfl, k32⟩ := asI.of k31
  obtain ⟨l, rfl, n, k4, k5⟩ := asI.of k32
  rw [rvI hr, rvI hz, rvI hz3]
  exact ⟨i, j, l, n, rfl, k4, hq _ H3 G3 _ ((x1.trans x2).trans x3) itOk_rngC k5⟩
end
/-- an upward range's turns -/
def rN (i j c : Int) : Nat := if i < j then ((j - i - 1) / c).toNat + 1 else 0
theorem rgC_up {i j c : Int} (h1 : -(2 ^ 61) ≤ i) (h2 : i < 2 ^ 61) (h3 : -(2 ^ 61) ≤ j) (h4 : j < 2 ^ 61) (hc : 0 < c) (hc2 : c < 1000000) : RgC i j c (rN i j c) := by
  have hs : Builtin.Range.rangeSize i j c = (rN i j c : Int) := by
    unfold Builtin.Range.rangeSize rN
    rw [if_pos hc]
    by_cases h : i < j
    · rw [if_pos h, if_pos h]
      have : 0 ≤ (j - i - 1) / c := Int.ediv_nonneg (by omega) (by omega)
      omega
    · rw [if_neg h, if_neg h]; rfl
  refine ⟨by omega, by omega, ?_, hs⟩
  unfold Builtin.Range.small
  rw [hs]
  simp only [Builtin.Range.rangeFitsLong, Bool.and_eq_true, Bool.or_eq_true, decide_eq_true_eq, beq_iff_eq, if_pos hc]
  have hr : 0 ≤ (rN i j c : Int) ∧ (rN i j c : Int) < 2 ^ 62 := by
    unfold rN
    split
    · rename_i h
      have a1 : (j - i - 1) / c ≤ j - i - 1 := Int.ediv_le_self _ (by omega)
      have a2 : 0 ≤ (j - i - 1) / c := Int.ediv_nonneg (by omega) (by omega)
      omega
    · omega
  refine ⟨⟨⟨⟨by omega, by omega⟩, by omega⟩, by omega⟩, .inr ⟨by omega, by omega⟩⟩
end DL
namespace DL
open PySem PySem.Spec PyProof.Rows L2
variable {K : PySem.W.Frag}

/-! ### exceptions: the classes of the text stand flat under StakeError -/
def exB (a b : Str) : Bool := a == b || b == ("StakeError" : Str)
abbrev veB : List Value := [.type "ValueError", .type "Exception", .type "BaseException", .type "object"]
structure Exn (K : PySem.W.Frag) (C : Addr) : Prop where
  x : PySem.W.excIn K C veB "ValueError.__new__" = true
  k : PySem.W.keepIn K (.ref C) = true
  b : PySem.W.subIn K (.ref C) (.type "BaseException") = some true
  t : PySem.W.typeIn K (.ref C) = some (.type "type")
/-- a class that may be raised -/
def Xr (K : PySem.W.Frag) (mg : MG) (x : Str) : Prop := ∃ C, mg x = some (.ref C) ∧ Exn K C
/-- what an except clause says of a class -/
def Xm (K : PySem.W.Frag) (mg : MG) (a b : Str) (r : Bool) : Prop := ∃ C D, mg a = some (.ref C) ∧ mg b = some (.ref D) ∧ PySem.W.exmOne K (.ref C) (.ref D) = some r
/-- what isinstance says of a caught one -/
def Xi (K : PySem.W.Frag) (mg : MG) (a b : Str) (r : Bool) : Prop := ∃ C, mg a = some (.ref C) ∧ ExcC K C ∧ ((∃ D, mg b = some (.ref D) ∧ PySem.W.keepIn K (.ref D) = true ∧ PySem.W.kitOne K (.ref C) (.ref D) = some r) ∨
  (mg b = none ∧ bootBuiltins b = some (.type "ValueError") ∧ b = ("ValueError" : Str) ∧ PySem.W.kitOne K (.ref C) (.type "ValueError") = some r))
/-- the facts at hand: rows of names -/
structure Xs (K : PySem.W.Frag) (mg : MG) (ms is : List (Str × Str × Bool)) : Prop where
  m : ∀ p ∈ ms, Xm K mg p.1 p.2.1 p.2.2
  i : ∀ p ∈ is, Xi K mg p.1 p.2.1 p.2.2
def look (l : List (Str × Str × Bool)) (a b : Str) : Option Bool := match l with
  | [] => none
  | p :: r => if (p.1 == a && p.2.1 == b) = true then some p.2.2 else look r a b
theorem look_mem {a b : Str} {r : Bool} : ∀ {l : List (Str × Str × Bool)}, look l a b = some r → (a, b, r) ∈ l
  | [], h => nomatch h
  | p :: l, h => by
    unfold look at h
    split at h
    · rename_i e
      rw [Bool.and_eq_true, beq_iff_eq, beq_iff_eq] at e
      injection h with h
      obtain ⟨p1, p2, p3⟩ := p
      obtain ⟨e1, e2⟩ := e
      dsimp only at e1 e2 h
      subst e1 e2 h
      exact List.mem_cons_self
    · exact List.mem_cons_of_mem _ (look_mem h)
def sRaise (nm : Str) : DS := fun κ ρ => κ.ex nm ρ
section
variable {X : Cx} {W : WX}
theorem ms_raise {x m : Str} {j : Nat} {p p2 p3 pos : Pos} (hc : X.calm = true) (tk : Takes X W) (hx : Xr X.K X.mg x) (hg : Gl X x := by rfl) (hdb : (x == ("__debug__" : Str)) = false := by decide) : MS X W (.Raise (some (.Call (.Name x p) [.Constant (.str m) j p2] [] p3)) none pos) (sRaise x) := by
  obtain ⟨C, hm, hC⟩ := hx
  exact ⟨_, ps_raise hc tk (pmk_own PySem.F.excBase_ValueError hC.x hm hC.k (raises_own hC.b hC.t) hg hdb), fun H0 G0 G ρ σ H D κ R h E => E.ex x _ ρ σ H G R hm h⟩
/-- one reading for all the contexts of a try's body -/
theorem try_b {W0 : WX → Prop} {body : List Stmt} {δ : DS} (hb : ∀ (W : WX) (pn : List (Addr × Obj)) (xe : Value → Shared → Prop), Takes (X.tr pn xe) W → PassesOwn (model X.prog X.w) X.A X.env xe → MSs (X.tr pn xe) W body δ) :
    ∃ tb : WX → TS, (∀ (W : WX) (pn : List (Addr × Obj)) (xe : Value → Shared → Prop), Takes (X.tr pn xe) W → PassesOwn (model X.prog X.w) X.A X.env xe → PSs (X.tr pn xe) body (tb W)) ∧ ∀ W, SOk X.K X.mg W (tb W) δ := by
  refine ⟨fun W D σ H => ∀ pn xe t, Takes (X.tr pn xe) W → PassesOwn (model X.prog X.w) X.A X.env xe → PSs (X.tr pn xe) body t → SOk X.K X.mg W t δ → t D σ H, fun W pn xe tk po => ?_, fun W H0 G0 G ρ σ H D κ R h E pn xe t _ _ _ ok => ok H0 G0 G ρ σ H D κ R h E⟩
  obtain ⟨t, pt, ot⟩ := hb W pn xe tk po
  exact ⟨fun pins s σ H D I q => pt.run pins s σ H D I (q pn xe t tk po pt ot)⟩
end
/-- try: body except x: suite -/
def sTry (ms : List (Str × Str × Bool)) (x : Str) (b s : DS) : DS := fun κ ρ => b { κ with ex := fun nm ρ' => onS (look ms nm x) fun r => if r = true then s κ ρ' else κ.ex nm ρ' } ρ
/-- try: body except x as n: suite -/
def sTryAs (ms : List (Str × Str × Bool)) (x : Str) (i : Nat) (b : DS) (s : Addr → Str → DS) : DS := fun κ ρ => b { κ with ex := fun nm ρ' => onS (look ms nm x) fun r => if r = true then ∀ a, s a nm { κ with nx := fun ρ2 => κ.nx (ρ2.set i .un), bk := fun ρ2 => κ.bk (ρ2.set i .un), ct := fun ρ2 => κ.ct (ρ2.set i .un), ex := fun _ _ => False } (ρ'.set i (.adr a)) else κ.ex nm ρ' } ρ
section
variable {X : Cx} {W : WX} {x n : Str} {body suite : List Stmt} {b₀ : Stmt} {np pos pos' : Pos} {db : DS} {ms is : List (Str × Str × Bool)}
theorem EndsOk.w0 {mg : MG} {W : WX} {H0 G0 : Hp} {D : Ends} {κ : DEnds} (E : EndsOk K mg W H0 G0 D κ) : EndsOk K mg DL.W0 H0 G0 D { κ with ex := fun _ _ => False } :=
  ⟨E.nx, E.bk, E.ct, E.rt, fun _ _ _ _ _ _ _ _ k => k⟩
theorem ms_try {ds : DS} (hs : X.stack = X.env :: X.outer) (hf : X.env.frame = some X.env.locals) (tk : Takes X W) (XX : Xs X.K X.mg ms is) (hx : ∃ C, X.mg x = some (.ref C))
    (hb : ∀ (W : WX) (pn : List (Addr × Obj)) (xe : Value → Shared → Prop), Takes (X.tr pn xe) W → PassesOwn (model X.prog X.w) X.A X.env xe → MSs (X.tr pn xe) W body db)
    (hsu : ∀ (a : Addr) (oe : Obj) (pn : List (Addr × Obj)), MSs (X.suite a ((a, oe) :: pn)) DL.W0 (b₀ :: suite) ds)
    (hg : Gl X x := by rfl) (hdb : (x == ("__debug__" : Str)) = false := by decide) :
    MS X W (.Try body [.ExceptHandler (some (.Name x np)) none (b₀ :: suite) pos'] [] [] pos) (sTry ms x db (fun κ ρ => ds { κ with ex := fun _ _ => False } ρ)) := by
  obtain ⟨C, hx⟩ := hx
  obtain ⟨tb, pb, ob⟩ := try_b (W0 := fun _ => True) hb
  refine ⟨_, ps_try_only (tb := tb) (ts := fun a cls d D σ H => ∀ oe pn t, PSs (X.suite a ((a, oe) :: pn)) (b₀ :: suite) t → SOk X.K X.mg DL.W0 t ds → t D σ H) (Wout := W) hs hf ⟨hg, hdb, .inl hx⟩ tk pb (fun a oe cls d pn hz hfl => ?_), fun H0 G0 G ρ σ H D κ R h E => ?_⟩
  · obtain ⟨t, pt, ot⟩ := hsu a oe pn
    exact ⟨fun pins s σ H D I q => pt.run pins s σ H D I (q oe pn t pt ot)⟩
  · refine ob _ H0 G0 G ρ σ H D _ R h ⟨E.nx, E.bk, E.ct, E.rt, fun nm cls ρ' σ' H' G' R' hm k => ?_⟩
    obtain ⟨r, hr, k⟩ := onS.of k
    obtain ⟨C1, D1, e1, e2, e3⟩ := XX.m _ (look_mem hr)
    have e1 : X.mg nm = some (.ref C1) := e1
    have e2 : X.mg x = some (.ref D1) := e2
    rw [hm] at e1
    rw [hx] at e2
    cases e1
    cases e2
    refine ⟨r, e3, fun hr1 a na oe pn t pt ot => ?_, fun hr0 => ?_⟩
    · rw [if_pos hr1] at k
      exact ot H0 G0 G' ρ' σ' H' D _ R' k E.w0
    · rw [if_neg (by rw [hr0]; exact Bool.false_ne_true)] at k
      exact E.ex nm _ ρ' σ' H' G' R' hm k
theorem Rel.adr {H0 G0 G H : Hp} {ρ : List Sl} {σ : L2.St} (R : Rel K H0 G0 G ρ σ H) (i : Nat) (a : Addr) : Rel K H0 G0 G (ρ.set i (.adr a)) (σ.set i (some (.ref a))) H := by
  refine ⟨R.ext, by rw [List.length_set, List.length_set]; exact R.len, fun j t ht => ?_, fun j k ds es l hj hk lj lk => ?_⟩
  · by_cases hij : i = j
    · subst hij
      by_cases hi : i < ρ.length
      · rw [List.getElem?_set_self hi] at ht
        cases ht
        show (σ.set i (some (V.ref a)))[i]? = _
        rw [List.getElem?_set_self (by rw [← R.len]; exact hi)]
      · rw [List.getElem?_eq_none (by rw [List.length_set]; omega)] at ht
        exact nomatch ht
    · rw [List.getElem?_set_ne hij] at ht ⊢
      exact R.sl j t ht
  · have key : ∀ (j : Nat) (ds : List Dat), (ρ.set i (.adr a))[j]? = some (.ow ds) → i ≠ j := fun j ds h e => by
      subst e
      by_cases hi : i < ρ.length
      · rw [List.getElem?_set_self hi] at h; exact nomatch h
      · rw [List.getElem?_eq_none (by rw [List.length_set]; omega)] at h; exact nomatch h
    have a1 := key j ds hj
    have a2 := key k es hk
    rw [List.getElem?_set_ne a1] at hj lj
    rw [List.getElem?_set_ne a2] at hk lk
    exact R.inj j k ds es l hj hk lj lk
theorem Rel.gone {H0 G0 G H : Hp} {ρ : List Sl} {σ : L2.St} (R : Rel K H0 G0 G ρ σ H) (i : Nat) (v : Option V) : Rel K H0 G0 G (ρ.set i .un) (σ.set i v) H := by
  refine R.weak (by rw [List.length_set]) (by rw [List.length_set]) fun j s h => ?_
  by_cases hij : i = j
  · subst hij
    by_cases hi : i < ρ.length
    · rw [List.getElem?_set_self hi] at h; cases h; exact .inl rfl
    · rw [List.getElem?_eq_none (by rw [List.length_set]; omega)] at h; exact nomatch h
  · rw [List.getElem?_set_ne hij] at h ⊢
    exact .inr ⟨h, rfl⟩
theorem ms_tryAs {ds : Addr → Str → DS} (i : Nat) (hs : X.stack = X.env :: X.outer) (hf : X.env.frame = some X.env.locals) (hN : X.N.Nodup) (tk : Takes X W) (XX : Xs X.K X.mg ms is) (hx : ∃ C, X.mg x = some (.ref C))
    (hb : ∀ (W : WX) (pn : List (Addr × Obj)) (xe : Value → Shared → Prop), Takes (X.tr pn xe) W → PassesOwn (model X.prog X.w) X.A X.env xe → MSs (X.tr pn xe) W body db)
    (hsu : ∀ (a : Addr) (oe : Obj) (cls : Value) (nm : Str) (pn : List (Addr × Obj)), Zc cls none oe → (∃ vs, oe.data = .fields vs) → X.mg nm = some cls → MSs (X.suite a ((a, oe) :: pn)) DL.W0 (b₀ :: suite) (ds a nm))
    (hi : X.N[i]? = some n := by rfl) (hln : X.env.kindOf n = some .local := by rfl) (hg : Gl X x := by rfl) (hdb : (x == ("__debug__" : Str)) = false := by decide) :
    MS X W (.Try body [.ExceptHandler (some (.Name x np)) (some n) (b₀ :: suite) pos'] [] [] pos) (sTryAs ms x i db ds) := by
  obtain ⟨C, hx⟩ := hx
  obtain ⟨tb, pb, ob⟩ := try_b (W0 := fun _ => True) hb
  refine ⟨_, ps_try_as (tb := tb) (i := i) (ts := fun a cls d D σ H => ∃ nm, d = none ∧ X.mg nm = some cls ∧ ∀ oe pn t, Zc cls none oe → (∃ vs, oe.data = .fields vs) → PSs (X.suite a ((a, oe) :: pn)) (b₀ :: suite) t → SOk X.K X.mg DL.W0 t (ds a nm) → t D σ H) (Wout := W) hs hf hN hi hln ⟨hg, hdb, .inl hx⟩ tk pb (fun a oe cls d pn hz hfl => ?_), fun H0 G0 G ρ σ H D κ R h E => ?_⟩
  · refine ⟨fun pins s σ H D I q => ?_⟩
    obtain ⟨nm, rfl, hm, q⟩ := q
    obtain ⟨t, pt, ot⟩ := hsu a oe cls nm pn hz hfl hm
    exact pt.run pins s σ H D I (q oe pn t hz hfl pt ot)
  · refine ob _ H0 G0 G ρ σ H D _ R h ⟨E.nx, E.bk, E.ct, E.rt, fun nm cls ρ' σ' H' G' R' hm k => ?_⟩
    obtain ⟨r, hr, k⟩ := onS.of k
    obtain ⟨C1, D1, e1, e2, e3⟩ := XX.m _ (look_mem hr)
    have e1 : X.mg nm = some (.ref C1) := e1
    have e2 : X.mg x = some (.ref D1) := e2
    rw [hm] at e1
    rw [hx] at e2
    cases e1
    cases e2
    refine ⟨r, e3, fun hr1 a na => ⟨nm, rfl, hm, fun oe pn t hz hfl pt ot => ?_⟩, fun hr0 => ?_⟩
    · rw [if_pos hr1] at k
      refine ot H0 G0 G' _ _ H' _ _ (R'.adr i a) (k a) ⟨fun ρ2 σ2 H2 G2 R2 k2 => ?_, fun ρ2 σ2 H2 G2 R2 k2 => ?_, fun ρ2 σ2 H2 G2 R2 k2 => ?_, E.rt, fun _ _ _ _ _ _ _ _ k => k⟩
      · exact E.nx _ _ H2 G2 (R2.gone i none) k2
      · exact E.bk _ _ H2 G2 (R2.gone i none) k2
      · exact E.ct _ _ H2 G2 (R2.gone i none) k2
    · rw [if_neg (by rw [hr0]; exact Bool.false_ne_true)] at k
      exact E.ex nm _ ρ' σ' H' G' R' hm k
end
/-- isinstance(n, y), n the caught one -/
def dIsx (is : List (Str × Str × Bool)) (a : Addr) (nm : Str) (i : Nat) (y : Str) : DE := fun ρ κ _ => ρ[i]? = some (.adr a) ∧ onS (look is nm y) fun r => κ (.v (.bl r))
section
variable {X : Cx} {W : WX} {n y : Str} {ms is : List (Str × Str × Bool)} {p p1 p2 pos : Pos}
theorem me_isx {a : Addr} {oe : Obj} {cls : Value} {nm : Str} {pn : List (Addr × Obj)} (i : Nat) (XX : Xs X.K X.mg ms is) (hz : Zc cls none oe) (hfl : ∃ vs, oe.data = .fields vs) (hm : X.mg nm = some cls) (hI : X.mg "isinstance" = none)
    (hN : X.N[i]? = some n := by rfl) (hv : Vis X.env.scope n := by first | exact Or.inl rfl | exact Or.inr (Or.inl rfl) | exact Or.inr (Or.inr rfl)) (hd : (n == ("__debug__" : Str)) = false := by decide) (hcd : (n == ("__classdict__" : Str)) = false := by decide)
    (hg : Gl X "isinstance" := by rfl) (hgy : Gl X y := by rfl) (hny : y ≠ "__name__" := by decide) (hdy : (y == ("__debug__" : Str)) = false := by decide)
    (he : starEach [.Name n p1, .Name y p2] X.env = (false, eval (.Name n p1) X.env) :: starEach [.Name y p2] X.env := by rfl) (he2 : starEach [.Name y p2] X.env = (false, eval (.Name y p2) X.env) :: starEach [] X.env := by rfl) (hpl : (backTo pos (starEach [.Name y p2] X.env)).any (·.1) = false := by rfl) :
    ME (X.suite a ((a, oe) :: pn)) W (.Call (.Name "isinstance" p) [.Name n p1, .Name y p2] [] pos) (dIsx is a nm i y) := by
  by_cases hex : ∃ r, look is nm y = some r
  · obtain ⟨r, hr⟩ := hex
    obtain ⟨C, e1, xc, hy⟩ := XX.i _ (look_mem hr)
    have e1 : X.mg nm = some (.ref C) := e1
    rw [hm] at e1
    cases e1
    have go : ∀ {vy : V} {cv : Value}, PE (X.suite a ((a, oe) :: pn)) (.Name y p2) (tC vy) → (∀ u, RelV vy u → u = cv) → PySem.W.kitOne X.K (.ref C) cv = some r → ME (X.suite a ((a, oe) :: pn)) W (.Call (.Name "isinstance" p) [.Name n p1, .Name y p2] [] pos) (dIsx is a nm i y) := fun {vy cv} py hcv hk => by
      refine ⟨_, pe_callB (X := X.suite a ((a, oe) :: pn)) (call_isE xc hz hfl) hg hI PyProof.Rows.boot_isinstance (pa_cons (pe_var (X := X.suite a ((a, oe) :: pn)) hN hv hd hcd) (pa_cons py pa_nil he2) he) (by decide) (by decide) he hpl, fun H0 G0 G ρ σ H Q κ ε R h hq hx => ?_⟩
      obtain ⟨h1, h2⟩ := h
      obtain ⟨r', hr', h2⟩ := onS.of h2
      rw [hr] at hr'
      cases hr'
      exact ⟨.ref a, R.sl _ _ h1, vy, cv, r, rfl, hcv, hk, hq _ H G (.v (.bl _)) (Ext.refl R.ext.s) toB h2⟩
    rcases hy with ⟨D, e2, k2, h2⟩ | ⟨e2, bt, ey, h2⟩
    · exact go (vy := .ref D) (pe_glob (X := X.suite a ((a, oe) :: pn)) hgy e2 rfl hdy) (fun u h => h) h2
    · exact go (vy := .ty "ValueError") (pe_bltn (X := X.suite a ((a, oe) :: pn)) (v := .ty "ValueError") hgy e2 bt rfl hny hdy) (fun u h => h) h2
  · refine ⟨fun _ _ _ => False, ⟨fun pins s σ H Q I q => q.elim⟩, fun H0 G0 G ρ σ H Q κ ε R h hq hx => ?_⟩
    obtain ⟨_, h2⟩ := h
    obtain ⟨r, hr, _⟩ := onS.of h2
    exact absurd ⟨r, hr⟩ hex
end
end DL
namespace DL
open PySem PySem.Spec PyProof.Rows L2
variable {K : PySem.W.Frag}

/-! ### sum, min, max of a list of ints -/
def intsD : List Dat → Option (List Int)
  | [] => some []
  | .int i :: ds => (intsD ds).map (i :: ·)
  | _ => none
theorem intsD_map : ∀ ns : List Int, intsD (ns.map Dat.int) = some ns
  | [] => rfl
  | n :: ns => by
    show (intsD (ns.map Dat.int)).map (n :: ·) = _
    rw [intsD_map ns]; rfl
theorem intsD_of : ∀ {ds : List Dat} {ns : List Int}, intsD ds = some ns → ds = ns.map Dat.int
  | [], ns, h => by cases h; rfl
  | d :: ds, ns, h => by
    cases d with
    | int i =>
      have h : (intsD ds).map (i :: ·) = some ns := h
      obtain ⟨r, e, rfl⟩ := Option.map_eq_some_iff.mp h
      rw [intsD_of e]; rfl
    | _ => exact nomatch h
theorem RdL.toInts {G : Hp} : ∀ {ns : List Int} {vs : List V}, RdL K G (ns.map Dat.int) vs → vs = ns.map V.int
  | [], vs, h => by unfold List.map RdL at h; exact h
  | n :: ns, vs, h => by
    unfold List.map RdL at h
    obtain ⟨v, r, rfl, h1, h2⟩ := h
    unfold RdD at h1
    rw [h1, RdL.toInts h2]; rfl
def kSum : List Rv → (Rv → Prop) → Prop := fun rs κ => match rs with
  | [x] => asL x fun ds => onS (intsD ds) fun ns => κ (.v (.int ns.sum))
  | _ => False
def kMax1 : List Rv → (Rv → Prop) → Prop := fun rs κ => match rs with
  | [x] => asL x fun ds => onS (intsD ds) fun ns => onS ns.max? fun m => κ (.v (.int m))
  | _ => False
def kMin1 : List Rv → (Rv → Prop) → Prop := fun rs κ => match rs with
  | [x] => asL x fun ds => onS (intsD ds) fun ns => onS ns.min? fun m => κ (.v (.int m))
  | _ => False
theorem intsQ {H0 G Hs H : Hp} {x : Rv} {v : V} {ds : List Dat} {ns : List Int} (s : Same G H) (s0 : Same H0 H) (h : RvR K H0 G Hs H x v) (e : x.dat = .lst ds) (e2 : intsD ds = some ns) : ∃ l, v = .ref l ∧ SqL K H l (ns.map V.int) := by
  rw [intsD_of e2] at e
  obtain ⟨l, vs, a, b, c⟩ := h.lst s s0 e
  rw [c.toInts] at b
  exact ⟨l, a, b⟩
section
variable {X : Cx} {W : WX} {p pos : Pos} {e : Expr} {es : List Expr} {da : DA}
theorem opa_sum : OpA K (rSum K) kSum := by
  intro H0 G Hs H rs vs Q κ s s0 sh h k q
  unfold kSum at k
  split at k
  · obtain ⟨v, rfl, h1⟩ := rvs1 h
    obtain ⟨ds, e, k1⟩ := asL.of k
    obtain ⟨ns, e2, k2⟩ := onS.of k1
    obtain ⟨l, rfl, b⟩ := intsQ s s0 h1 e e2
    exact ⟨l, ns, rfl, b, q _ H G (.v (.int _)) (Ext.refl s) toI k2⟩
  · exact k.elim
theorem opa_max1 : OpA K (rMax K) kMax1 := by
  intro H0 G Hs H rs vs Q κ s s0 sh h k q
  unfold kMax1 at k
  split at k
  · obtain ⟨v, rfl, h1⟩ := rvs1 h
    obtain ⟨ds, e, k1⟩ := asL.of k
    obtain ⟨ns, e2, k2⟩ := onS.of k1
    obtain ⟨m, e3, k3⟩ := onS.of k2
    obtain ⟨l, rfl, b⟩ := intsQ s s0 h1 e e2
    obtain ⟨a1, a2⟩ := List.max?_eq_some_iff.mp e3
    refine ⟨l, ns, rfl, b, List.length_pos_of_mem a1, fun m' h1 h2 => ?_⟩
    have em : m' = m := Int.le_antisymm (a2 m' h1) (h2 m a1)
    subst em
    exact q _ H G (.v (.int _)) (Ext.refl s) toI k3
  · exact k.elim
theorem opa_min1 : OpA K (rMin K) kMin1 := by
  intro H0 G Hs H rs vs Q κ s s0 sh h k q
  unfold kMin1 at k
  split at k
  · obtain ⟨v, rfl, h1⟩ := rvs1 h
    obtain ⟨ds, e, k1⟩ := asL.of k
    obtain ⟨ns, e2, k2⟩ := onS.of k1
    obtain ⟨m, e3, k3⟩ := onS.of k2
    obtain ⟨l, rfl, b⟩ := intsQ s s0 h1 e e2
    obtain ⟨a1, a2⟩ := List.min?_eq_some_iff.mp e3
    refine ⟨l, ns, rfl, b, List.length_pos_of_mem a1, fun m' h1 h2 => ?_⟩
    have em : m' = m := Int.le_antisymm (h2 m a1) (a2 m' h1)
    subst em
    exact q _ H G (.v (.int _)) (Ext.refl s) toI k3
  · exact k.elim
theorem me_sum (hc : X.calm = true) (hm : X.mg "sum" = none) (ha : MA X W (e :: es) da) (hg : Gl X "sum" := by rfl) (he : starEach (e :: es) X.env = (false, eval e X.env) :: starEach es X.env := by rfl) (hpl : (backTo pos (starEach es X.env)).any (·.1) = false := by rfl) : ME X W (.Call (.Name "sum" p) (e :: es) [] pos) (dB kSum da) :=
  me_B (cr_sum hc) opa_sum (by decide +kernel) hm ha hg (by decide) (by decide) he hpl
theorem me_max1 (hc : X.calm = true) (hm : X.mg "max" = none) (ha : MA X W (e :: es) da) (hg : Gl X "max" := by rfl) (he : starEach (e :: es) X.env = (false, eval e X.env) :: starEach es X.env := by rfl) (hpl : (backTo pos (starEach es X.env)).any (·.1) = false := by rfl) : ME X W (.Call (.Name "max" p) (e :: es) [] pos) (dB kMax1 da) :=
  me_B (cr_max hc) opa_max1 (by decide +kernel) hm ha hg (by decide) (by decide) he hpl
theorem me_min1 (hc : X.calm = true) (hm : X.mg "min" = none) (ha : MA X W (e :: es) da) (hg : Gl X "min" := by rfl) (he : starEach (e :: es) X.env = (false, eval e X.env) :: starEach es X.env := by rfl) (hpl : (backTo pos (starEach es X.env)).any (·.1) = false := by rfl) : ME X W (.Call (.Name "min" p) (e :: es) [] pos) (dB kMin1 da) :=
  me_B (cr_min hc) opa_min1 (by decide +kernel) hm ha hg (by decide) (by decide) he hpl
end

/-! ### in; is None; is True -/
def kIn (neg : Bool) : Rv → Rv → (Rv → Prop) → (Str → Prop) → Prop := fun x y κ _ => asL y fun ds => (shp 64 x.dat = true ∧ shp 64 (.lst ds) = true) ∧ κ (.v (.bl (if neg = true then !(ds.any fun z => eqD z x.dat) else (ds.any fun z => eqD z x.dat))))
theorem any_py {d : Dat} (h : plainD d = true) : ∀ ds : List Dat, plainDL ds = true → (toPyL ds).any (fun z => PyData.eqv z (toPy d)) = ds.any fun z => eqD z d
  | [], _ => by unfold toPyL; rfl
  | x :: xs, p => by
    unfold plainDL at p; rw [Bool.and_eq_true] at p
    unfold toPyL
    rw [List.any_cons, List.any_cons, any_py h xs p.2, eqD_py x d p.1 h]
theorem inD_go {x y : Rv} {v u : V} {ds : List Dat} {H0 G Hs H : Hp} (s : Same G H) (s0 : Same H0 H) (rx : RvR K H0 G Hs H x v) (ry : RvR K H0 G Hs H y u) (e : y.dat = .lst ds) (p1 : shp 64 x.dat = true) (p2 : shp 64 (.lst ds) = true) :
    ∃ d es, Dp K H v d ∧ Dp K H u (.list es) ∧ SeqAt.shaped d = true ∧ SeqAt.shaped (.list es) = true ∧ (es.any fun z => PyData.eqv z d) = ds.any fun z => eqD z x.dat := by
  obtain ⟨q1, q3⟩ := shp_shaped p1
  obtain ⟨q2, q4⟩ := shp_shaped p2
  have ry := ry.read s s0
  rw [e] at ry
  have q2' : plainDL ds = true := by unfold plainD at q2; exact q2
  have et : toPy (.lst ds) = .list (toPyL ds) := by unfold toPy; rfl
  rw [et] at q4
  refine ⟨_, toPyL ds, RdD.dp _ _ q1 (rx.read s s0), ?_, q3, q4, any_py q1 ds q2'⟩
  have := RdD.dp _ _ q2 ry
  rw [et] at this
  exact this
theorem op2_in : Op2 K (rInD K) (kIn false) := by
  intro H0 G Hs H x y v u Q κ ε s s0 sh rx ry h q
  obtain ⟨ds, e, ⟨p1, p2⟩, hk⟩ := asL.of h
  obtain ⟨d, es, a1, a2, a3, a4, a5⟩ := inD_go s s0 rx ry e p1 p2
  refine ⟨d, es, a1, a2, a3, a4, ?_⟩
  rw [a5]
  exact q _ H G (.v (.bl _)) (Ext.refl s) toB hk
theorem op2_notin : Op2 K (rNotInD K) (kIn true) := by
  intro H0 G Hs H x y v u Q κ ε s s0 sh rx ry h q
  obtain ⟨ds, e, ⟨p1, p2⟩, hk⟩ := asL.of h
  obtain ⟨d, es, a1, a2, a3, a4, a5⟩ := inD_go s s0 rx ry e p1 p2
  refine ⟨d, es, a1, a2, a3, a4, ?_⟩
  rw [a5]
  exact q _ H G (.v (.bl _)) (Ext.refl s) toB hk
def isNon : Dat → Bool
  | .non => true
  | _ => false
def kIsN (neg : Bool) : Rv → Rv → (Rv → Prop) → (Str → Prop) → Prop := fun x _ κ _ => κ (.v (.bl (if neg = true then !isNon x.dat else isNon x.dat)))
theorem rd_non {G : Hp} {d : Dat} {v : V} (h : RdD K G d v) : decide (v = .non) = isNon d := by
  cases d with
  | non => unfold RdD at h; subst h; rfl
  | bl b => unfold RdD at h; subst h; rfl
  | int b => unfold RdD at h; subst h; rfl
  | str b => unfold RdD at h; subst h; rfl
  | tup b => unfold RdD at h; obtain ⟨a, vs, rfl, _⟩ := h; rfl
  | lst b => unfold RdD at h; obtain ⟨a, vs, rfl, _⟩ := h; rfl
  | dic b => unfold RdD at h; obtain ⟨a, rfl, _⟩ := h; rfl
def kIsB (neg : Bool) : Rv → Rv → (Rv → Prop) → (Str → Prop) → Prop := fun x y κ _ => asB x fun a => asB y fun b => κ (.v (.bl (if neg = true then !decide (a = b) else decide (a = b))))
theorem op2_isB : Op2 K rIsB (kIsB false) := by
  intro H0 G Hs H x y v u Q κ ε s s0 sh rx ry h q
  obtain ⟨a, rfl, h1⟩ := asB.of h
  obtain ⟨b, rfl, hk⟩ := asB.of h1
  exact ⟨a, b, rvB rx, rvB ry, q _ H G (.v (.bl _)) (Ext.refl s) toB hk⟩
theorem op2_isnB : Op2 K rNotB (kIsB true) := by
  intro H0 G Hs H x y v u Q κ ε s s0 sh rx ry h q
  obtain ⟨a, rfl, h1⟩ := asB.of h
  obtain ⟨b, rfl, hk⟩ := asB.of h1
  exact ⟨a, b, rvB rx, rvB ry, q _ H G (.v (.bl _)) (Ext.refl s) toB hk⟩
def dIn (neg : Bool) := dBin (kIn neg)
def dIsN (neg : Bool) (a : DE) : DE := dBin (kIsN neg) a (dC .non)
def dIsB (neg : Bool) (b : Bool) (a : DE) : DE := dBin (kIsB neg) a (dC (.bl b))
def rIsN1 (K : PySem.W.Frag) : R2 := fun x y H Q => y = .non ∧ Q (.bl (decide (x = .non))) H
section
variable {X : Cx} {W : WX} {a b : Expr} {da db : DE} {pos p2 : Pos} {j : Nat}
theorem op2_isN {neg : Bool} (f : Bool → Bool) (hf : ∀ c, f c = if neg = true then !c else c) : ∀ (H0 G Hs H : Hp) (x y : Rv) (v u : V) (Q : VK) (κ : Rv → Prop) (ε : Str → Prop), Same G H → Same H0 H → Same Hs H → RvR K H0 G Hs H x v → y = .v .non → RvR K H0 G Hs H y u → kIsN neg x y κ ε →
    (∀ w H' G' z, Ext H G H' G' → RvR K H0 G' H H' z w → κ z → Q w H') → u = .non ∧ Q (.bl (f (decide (v = .non)))) H := by
  intro H0 G Hs H x y v u Q κ ε s s0 sh rx ey ry h q
  subst ey
  have ry : RdD K G .non u := ry
  unfold RdD at ry
  refine ⟨ry, ?_⟩
  rw [hf, rd_non (rx.read s s0)]
  exact q _ H G (.v (.bl _)) (Ext.refl s) toB h
theorem me_isN (ha : ME X W a da) : ME X W (.Compare a [.Is] [.Constant .none j p2] pos) (dIsN false da) := by
  obtain ⟨ta, pa, oa⟩ := ha
  refine ⟨_, pe_cmpR op_isN pa pe_non (nomark _), fun H0 G0 G ρ σ H Q κ ε R h hq hx => ?_⟩
  refine oa H0 G0 G ρ σ H _ _ ε R h (fun v H1 G1 x e1 r1 h1 => ?_) hx
  have R1 := R.on e1
  exact op2_isN (neg := false) id (fun c => rfl) H0 G1 H H1 x (.v .non) v .non Q κ ε e1.s R1.ext.h e1.h r1 rfl (by show RdD X.K _ _ _; unfold RdD; rfl) h1 fun w H' G' z e3 r3 h3 => hq w H' G' z (e1.trans e3) (r3.back e1.h) h3
theorem me_isNn (ha : ME X W a da) : ME X W (.Compare a [.IsNot] [.Constant .none j p2] pos) (dIsN true da) := by
  obtain ⟨ta, pa, oa⟩ := ha
  refine ⟨_, pe_cmpR op_notN pa pe_non (nomark _), fun H0 G0 G ρ σ H Q κ ε R h hq hx => ?_⟩
  refine oa H0 G0 G ρ σ H _ _ ε R h (fun v H1 G1 x e1 r1 h1 => ?_) hx
  have R1 := R.on e1
  exact op2_isN (neg := true) (fun c => !c) (fun c => rfl) H0 G1 H H1 x (.v .non) v .non Q κ ε e1.s R1.ext.h e1.h r1 rfl (by show RdD X.K _ _ _; unfold RdD; rfl) h1 fun w H' G' z e3 r3 h3 => hq w H' G' z (e1.trans e3) (r3.back e1.h) h3
theorem mt_isN (ha : ME X W a da) : MT X W (.Compare a [.Is] [.Constant .none j p2] pos) (tVal (dIsN false da)) := by
  obtain ⟨ta, pa, oa⟩ := ha
  refine ⟨_, pt_cmpR op_isN pa pe_non (nomark _), tok_val fun H0 G0 G ρ σ H Q κ ε R h hq hx => ?_⟩
  refine oa H0 G0 G ρ σ H _ _ ε R h (fun v H1 G1 x e1 r1 h1 => ?_) hx
  have R1 := R.on e1
  exact op2_isN (neg := false) id (fun c => rfl) H0 G1 H H1 x (.v .non) v .non Q κ ε e1.s R1.ext.h e1.h r1 rfl (by show RdD X.K _ _ _; unfold RdD; rfl) h1 fun w H' G' z e3 r3 h3 => hq w H' G' z (e1.trans e3) (r3.back e1.h) h3
theorem mt_isNn (ha : ME X W a da) : MT X W (.Compare a [.IsNot] [.Constant .none j p2] pos) (tVal (dIsN true da)) := by
  obtain ⟨ta, pa, oa⟩ := ha
  refine ⟨_, pt_cmpR op_notN pa pe_non (nomark _), tok_val fun H0 G0 G ρ σ H Q κ ε R h hq hx => ?_⟩
  refine oa H0 G0 G ρ σ H _ _ ε R h (fun v H1 G1 x e1 r1 h1 => ?_) hx
  have R1 := R.on e1
  exact op2_isN (neg := true) (fun c => !c) (fun c => rfl) H0 G1 H H1 x (.v .non) v .non Q κ ε e1.s R1.ext.h e1.h r1 rfl (by show RdD X.K _ _ _; unfold RdD; rfl) h1 fun w H' G' z e3 r3 h3 => hq w H' G' z (e1.trans e3) (r3.back e1.h) h3
theorem me_isB {c : Bool} (ha : ME X W a da) : ME X W (.Compare a [.Is] [.Constant (.bool c) j p2] pos) (dIsB false c da) := me_cmp op_isBl op2_isB ha me_bl (nomark _)
theorem me_isBn {c : Bool} (ha : ME X W a da) : ME X W (.Compare a [.IsNot] [.Constant (.bool c) j p2] pos) (dIsB true c da) := me_cmp op_notBl op2_isnB ha me_bl (nomark _)
theorem mt_isB {c : Bool} (ha : ME X W a da) : MT X W (.Compare a [.Is] [.Constant (.bool c) j p2] pos) (tVal (dIsB false c da)) := mt_cmp op_isBl op2_isB ha me_bl (nomark _)
theorem mt_isBn {c : Bool} (ha : ME X W a da) : MT X W (.Compare a [.IsNot] [.Constant (.bool c) j p2] pos) (tVal (dIsB true c da)) := mt_cmp op_notBl op2_isnB ha me_bl (nomark _)
theorem me_in (hu : X.A.units + 65 < cLine) (ha : ME X W a da) (hb : ME X W b db) (hm : behindInMarks .In b = false := by rfl) : ME X W (.Compare a [.In] [b] pos) (dIn false da db) := me_cmp (op_inD hu) op2_in ha hb hm
theorem me_notin (hu : X.A.units + 65 < cLine) (ha : ME X W a da) (hb : ME X W b db) (hm : behindInMarks .NotIn b = false := by rfl) : ME X W (.Compare a [.NotIn] [b] pos) (dIn true da db) := me_cmp (op_notInD hu) op2_notin ha hb hm
theorem mt_in (hu : X.A.units + 65 < cLine) (ha : ME X W a da) (hb : ME X W b db) (hm : behindInMarks .In b = false := by rfl) : MT X W (.Compare a [.In] [b] pos) (tVal (dIn false da db)) := mt_cmp (op_inD hu) op2_in ha hb hm
theorem mt_notin (hu : X.A.units + 65 < cLine) (ha : ME X W a da) (hb : ME X W b db) (hm : behindInMarks .NotIn b = false := by rfl) : MT X W (.Compare a [.NotIn] [b] pos) (tVal (dIn true da db)) := mt_cmp (op_notInD hu) op2_notin ha hb hm
end
end DL
namespace DL
open PySem PySem.Spec PyProof.Rows L2
variable {K : PySem.W.Frag}

/-! ### order of data -/
/-- comparable -/
def cmpO (a b : Dat) : Bool := shp 64 a && shp 64 b && PySem.W.alike (toPy a) (toPy b) && !isNon a
def ltD (a b : Dat) : Bool := PySem.W.dataLt (toPy a) (toPy b)
theorem cmpO_ok {a b : Dat} (h : cmpO a b = true) : plainD a = true ∧ plainD b = true ∧ PySem.W.alike (toPy a) (toPy b) = true ∧ toPy a ≠ .none ∧ (toPy a).depth ≤ 64 := by
  unfold cmpO at h
  rw [Bool.and_eq_true, Bool.and_eq_true, Bool.and_eq_true] at h
  obtain ⟨⟨⟨h1, h2⟩, h3⟩, h4⟩ := h
  obtain ⟨a1, a2, a3⟩ := shp_ok 64 a h1
  obtain ⟨b1, b2, b3⟩ := shp_ok 64 b h2
  refine ⟨a1, b1, h3, fun z => ?_, a3⟩
  cases a with
  | non => exact nomatch h4
  | dic kvs => unfold plainD at a1; exact nomatch a1
  | _ => unfold toPy at z; exact nomatch z
def rCmpD (K : PySem.W.Frag) (f : PyData → PyData → Bool) : R2 := fun x y H Q => ∃ d e, Dp K H x d ∧ Dp K H y e ∧ PySem.W.alike d e = true ∧ d ≠ .none ∧ d.depth ≤ 64 ∧ Q (.bl (f d e)) H
section
variable {X : Cx}
theorem op_ltD (hu : X.A.units + 64 < cLine) : OpR X (compareOp .Lt) (rCmpD X.K fun d e => PySem.W.dataLt d e) := by
  intro pins s σ H x y v u Q I rx ry ⟨d, e, hd, he, a1, a2, a3, q⟩
  obtain ⟨as, r1⟩ := Dp.reads I d x v hd rx
  obtain ⟨bs, r2⟩ := Dp.reads I e y u he ry
  exact PySem.W.lt_data r1 r2 a1 a2 (by have := Nat.min_le_left d.depth e.depth; omega) ⟨.bl _, H, I, rfl, q⟩
theorem op_gtD (hu : X.A.units + 64 < cLine) : OpR X (compareOp .Gt) (rCmpD X.K fun d e => PySem.W.dataLt e d) := by
  intro pins s σ H x y v u Q I rx ry ⟨d, e, hd, he, a1, a2, a3, q⟩
  obtain ⟨as, r1⟩ := Dp.reads I d x v hd rx
  obtain ⟨bs, r2⟩ := Dp.reads I e y u he ry
  exact PySem.W.gt_data r1 r2 a1 a2 (by have := Nat.min_le_left d.depth e.depth; omega) ⟨.bl _, H, I, rfl, q⟩
theorem op_leD (hu : X.A.units + 64 < cLine) : OpR X (compareOp .LtE) (rCmpD X.K fun d e => !PySem.W.dataLt e d) := by
  intro pins s σ H x y v u Q I rx ry ⟨d, e, hd, he, a1, a2, a3, q⟩
  obtain ⟨as, r1⟩ := Dp.reads I d x v hd rx
  obtain ⟨bs, r2⟩ := Dp.reads I e y u he ry
  exact PySem.W.le_data r1 r2 a1 a2 (by have := Nat.min_le_left d.depth e.depth; omega) ⟨.bl _, H, I, rfl, q⟩
theorem op_geD (hu : X.A.units + 64 < cLine) : OpR X (compareOp .GtE) (rCmpD X.K fun d e => !PySem.W.dataLt d e) := by
  intro pins s σ H x y v u Q I rx ry ⟨d, e, hd, he, a1, a2, a3, q⟩
  obtain ⟨as, r1⟩ := Dp.reads I d x v hd rx
  obtain ⟨bs, r2⟩ := Dp.reads I e y u he ry
  exact PySem.W.ge_data r1 r2 a1 a2 (by have := Nat.min_le_left d.depth e.depth; omega) ⟨.bl _, H, I, rfl, q⟩
end
def kCmp (g : Dat → Dat → Bool) : Rv → Rv → (Rv → Prop) → (Str → Prop) → Prop := fun x y κ _ => cmpO x.dat y.dat = true ∧ κ (.v (.bl (g x.dat y.dat)))
theorem op2_cmp {f : PyData → PyData → Bool} {g : Dat → Dat → Bool} (hfg : ∀ a b, g a b = f (toPy a) (toPy b)) : Op2 K (rCmpD K f) (kCmp g) := by
  intro H0 G Hs H x y v u Q κ ε s s0 sh rx ry h q
  obtain ⟨h1, hk⟩ := h
  obtain ⟨p1, p2, p3, p4, p5⟩ := cmpO_ok h1
  refine ⟨_, _, RdD.dp _ _ p1 (rx.read s s0), RdD.dp _ _ p2 (ry.read s s0), p3, p4, p5, ?_⟩
  rw [← hfg]
  exact q _ H G (.v (.bl _)) (Ext.refl s) toB hk
def dLtT := dBin (kCmp fun a b => ltD a b)
def dGtT := dBin (kCmp fun a b => ltD b a)
def dLeT := dBin (kCmp fun a b => !ltD b a)
def dGeT := dBin (kCmp fun a b => !ltD a b)
section
variable {X : Cx} {W : WX} {a b : Expr} {da db : DE} {pos : Pos}
theorem me_ltT (hu : X.A.units + 64 < cLine) (ha : ME X W a da) (hb : ME X W b db) : ME X W (.Compare a [.Lt] [b] pos) (dLtT da db) := me_cmp (op_ltD hu) (op2_cmp fun _ _ => rfl) ha hb (nomark _)
theorem me_gtT (hu : X.A.units + 64 < cLine) (ha : ME X W a da) (hb : ME X W b db) : ME X W (.Compare a [.Gt] [b] pos) (dGtT da db) := me_cmp (op_gtD hu) (op2_cmp fun _ _ => rfl) ha hb (nomark _)
theorem me_leT (hu : X.A.units + 64 < cLine) (ha : ME X W a da) (hb : ME X W b db) : ME X W (.Compare a [.LtE] [b] pos) (dLeT da db) := me_cmp (op_leD hu) (op2_cmp fun _ _ => rfl) ha hb (nomark _)
theorem me_geT (hu : X.A.units + 64 < cLine) (ha : ME X W a da) (hb : ME X W b db) : ME X W (.Compare a [.GtE] [b] pos) (dGeT da db) := me_cmp (op_geD hu) (op2_cmp fun _ _ => rfl) ha hb (nomark _)
theorem mt_ltT (hu : X.A.units + 64 < cLine) (ha : ME X W a da) (hb : ME X W b db) : MT X W (.Compare a [.Lt] [b] pos) (tVal (dLtT da db)) := mt_cmp (op_ltD hu) (op2_cmp fun _ _ => rfl) ha hb (nomark _)
theorem mt_gtT (hu : X.A.units + 64 < cLine) (ha : ME X W a da) (hb : ME X W b db) : MT X W (.Compare a [.Gt] [b] pos) (tVal (dGtT da db)) := mt_cmp (op_gtD hu) (op2_cmp fun _ _ => rfl) ha hb (nomark _)
theorem mt_leT (hu : X.A.units + 64 < cLine) (ha : ME X W a da) (hb : ME X W b db) : MT X W (.Compare a [.LtE] [b] pos) (tVal (dLeT da db)) := mt_cmp (op_leD hu) (op2_cmp fun _ _ => rfl) ha hb (nomark _)
theorem mt_geT (hu : X.A.units + 64 < cLine) (ha : ME X W a da) (hb : ME X W b db) : MT X W (.Compare a [.GtE] [b] pos) (tVal (dGeT da db)) := mt_cmp (op_geD hu) (op2_cmp fun _ _ => rfl) ha hb (nomark _)
end

/-! ### sorted, min, max of a list of data -/
/-- such that they can be put in order -/
structure SrtOk (ds : List Dat) : Prop where
  sh : shpL 63 ds = true
  al : PySem.W.AllAlike (toPyL ds)
  so : PySem.W.Sortable (toPyL ds)
theorem toPyL_map : ∀ ds : List Dat, toPyL ds = ds.map toPy
  | [] => by unfold toPyL; rfl
  | d :: ds => by unfold toPyL; rw [toPyL_map ds]; rfl
theorem shpL_mem {n : Nat} : ∀ {ds : List Dat}, shpL n ds = true → ∀ d ∈ ds, shp n d = true
  | [], _, _, h => nomatch h
  | x :: xs, h, d, hm => by
    unfold shpL at h
    rw [Bool.and_eq_true] at h
    rcases List.mem_cons.mp hm with e | hm
    · rw [e]; exact h.1
    · exact shpL_mem h.2 d hm
def sortD (ds : List Dat) : List Dat := ds.mergeSort fun a b => !ltD b a
def rSortD (K : PySem.W.Frag) : List V → Hp → VK → Prop := fun vs H Q => ∃ (a : Addr) (ds : List Dat) (xs : List V), vs = [V.ref a] ∧ SqL K H a xs ∧ RdL K H ds xs ∧ SrtOk ds ∧
  ∀ (ys : List V) (p : Addr), (∀ G, RdL K G ds xs → RdL K G (sortD ds) ys) → H p = none → Q (.ref p) (upd H p (.lst ys))
theorem each_vals {us : List Value} {α : Type} {f : α → V} : ∀ {bs : List α}, PySem.W.EachIs (fun (u : Value) (b : α) => RelV (f b) u) us bs → Vals (bs.map f) us := by
  intro bs h
  induction h with
  | nil => exact .nil
  | cons r _ ih => exact .cons r ih
theorem each_of : ∀ {xs : List V} {us : List Value} {ds : List Dat}, Vals xs us → ds.length = xs.length → PySem.W.EachIs (fun (u : Value) (b : Dat × V) => RelV b.2 u) us (ds.zip xs)
  | [], _, ds, .nil, e => by
    cases ds with
    | nil => exact .nil
    | cons d ds => exact nomatch e
  | x :: xs, _, ds, .cons r t, e => by
    cases ds with
    | nil => exact nomatch e
    | cons d ds => exact .cons r (each_of t (Nat.succ.inj e))
theorem RdL.zip {G : Hp} : ∀ {ds : List Dat} {xs : List V}, RdL K G ds xs → ∀ p ∈ ds.zip xs, RdD K G p.1 p.2
  | [], xs, h, p, hp => by simp at hp
  | d :: ds, xs, h, p, hp => by
    unfold RdL at h
    obtain ⟨v, r, rfl, h1, h2⟩ := h
    rw [List.zip_cons_cons] at hp
    rcases List.mem_cons.mp hp with e | hp
    · rw [e]; exact h1
    · exact RdL.zip h2 p hp
theorem RdL.of_pairs {G : Hp} : ∀ {ps : List (Dat × V)}, (∀ p ∈ ps, RdD K G p.1 p.2) → RdL K G (ps.map (·.1)) (ps.map (·.2))
  | [], _ => RdL.nil
  | p :: ps, h => RdL.cons (h p List.mem_cons_self) (RdL.of_pairs fun q hq => h q (List.mem_cons_of_mem _ hq))
theorem zip_fst {α β : Type} : ∀ {xs : List α} {ys : List β}, xs.length = ys.length → (xs.zip ys).map (·.1) = xs
  | [], _, _ => by simp
  | x :: xs, [], h => nomatch h
  | x :: xs, y :: ys, h => by rw [List.zip_cons_cons, List.map_cons, zip_fst (Nat.succ.inj h)]
theorem zip_snd {α β : Type} : ∀ {xs : List α} {ys : List β}, xs.length = ys.length → (xs.zip ys).map (·.2) = ys
  | [], [], _ => rfl
  | [], _ :: _, h => nomatch h
  | x :: xs, [], h => nomatch h
  | x :: xs, y :: ys, h => by rw [List.zip_cons_cons, List.map_cons, zip_snd (Nat.succ.inj h)]
theorem SrtOk.ok {ds : List Dat} (h : SrtOk ds) : ∀ d ∈ ds, plainD d = true ∧ (toPy d).depth ≤ 63 := fun d hd => by
  obtain ⟨a, b, c⟩ := shp_ok 63 d (shpL_mem h.sh d hd)
  exact ⟨a, c⟩
theorem cr_sortD {X : Cx} (hu : X.A.units + 66 < cLine) : CallR X (.builtin "sorted") (rSortD X.K) := by
  intro pins s σ H vs us Q I r h
  obtain ⟨a, ds, xs, rfl, hs, hr, ok, q⟩ := h
  obtain ⟨its, rv, hl, hz⟩ := I.list hs
  rw [Vals.ref1 r]
  have hlen := hr.len
  have ef : (ds.zip xs).map (fun b => toPy b.1) = toPyL ds := by
    have e0 : (ds.zip xs).map (fun b => toPy b.1) = ((ds.zip xs).map (·.1)).map toPy := by rw [List.map_map]; rfl
    rw [toPyL_map, e0, zip_fst hlen]
  have e1 := each_of (ds := ds) rv hlen
  have e2 : PySem.W.EachIs (fun (v : Value) (b : Dat × V) => ∃ as, Reads s.heap v (toPy b.1) as) its (ds.zip xs) := by
    have key : ∀ {us : List Value} {bs : List (Dat × V)}, PySem.W.EachIs (fun (u : Value) (b : Dat × V) => RelV b.2 u) us bs → (∀ b ∈ bs, RdD X.K H b.1 b.2 ∧ plainD b.1 = true) → PySem.W.EachIs (fun (v : Value) (b : Dat × V) => ∃ as, Reads s.heap v (toPy b.1) as) us bs := by
      intro us bs h
      induction h with
      | nil => intro _; exact .nil
      | cons r _ ih =>
        intro hb
        obtain ⟨b1, b2⟩ := hb _ List.mem_cons_self
        exact .cons (Dp.reads I _ _ _ (RdD.dp _ _ b2 b1) r) (ih fun b hm => hb b (List.mem_cons_of_mem _ hm))
    refine key e1 fun b hb => ⟨hr.zip b hb, (ok.ok b.1 ?_).1⟩
    exact (List.of_mem_zip (a := b.1) (b := b.2) hb).1
  have hlz : (ds.zip xs).length ≤ sizeLine := by rw [List.length_zip, hlen, Nat.min_self]; exact hz
  refine PySem.W.sorted_data (enc := fun b : Dat × V => toPy b.1) hl.isList e1 e2 (by rw [ef]; exact ok.al) (by rw [ef]; exact ok.so) hlz (fun b hb => ?_) fun out ho h2 => ?_
  · have := (ok.ok b.1 (List.of_mem_zip (a := b.1) (b := b.2) hb).1).2
    show X.A.units + 2 + (toPy b.1).depth < cLine
    omega
  · obtain ⟨ep, he'⟩ := PyProof.Rows.sortedAll_at s.heap its out.toArray
    have hv := each_vals h2
    generalize hS : (ds.zip xs).mergeSort (PySem.W.dataLe false fun b : Dat × V => toPy b.1) = S at h2 hv
    have em : S.map (·.1) = sortD ds := by
      rw [← hS]
      unfold sortD
      have e0 := List.map_mergeSort (l := ds.zip xs) (r := PySem.W.dataLe false fun b : Dat × V => toPy b.1) (s := fun a b => !ltD b a) (f := fun p : Dat × V => p.1) (fun a _ b _ => rfl)
      rw [zip_fst hlen] at e0
      exact e0
    have hp : ∀ p ∈ S, p ∈ ds.zip xs := fun p hm => by rw [← hS] at hm; exact (List.mem_mergeSort).mp hm
    have hl2 : (S.map (·.2)).length ≤ sizeLine := by rw [List.length_map, ← hS, List.length_mergeSort]; exact hlz
    refine ⟨.ref _, upd H (s.heap.objs.size + 1) (.lst (S.map (·.2))), I.laid (t' := s.toks) (fun _ _ => PyProof.Rows.sortedAll_old) (Nat.le_succ _) ⟨hl2, out, ep, hv, he'⟩, rfl, q _ _ (fun G hG => ?_) (I.hok.fresh (Nat.le_succ _))⟩
    rw [← em]
    exact RdL.of_pairs fun p hm => hG.zip p (hp p hm)
def kSort : List Rv → (Rv → Prop) → Prop := fun rs κ => match rs with
  | [x] => asL x fun ds => SrtOk ds ∧ κ (.n (sortD ds))
  | _ => False
theorem opa_sort : OpA K (rSortD K) kSort := by
  intro H0 G Hs H rs vs Q κ s s0 sh h k q
  unfold kSort at k
  split at k
  · obtain ⟨v, rfl, h1⟩ := rvs1 h
    obtain ⟨ds, e, ok, k1⟩ := asL.of k
    obtain ⟨l, us, rfl, b, c⟩ := h1.lst s s0 e
    refine ⟨l, ds, us, rfl, b, c.mono s, ok, fun ys p hy np => ?_⟩
    exact q _ _ _ (.n (sortD ds)) (Ext.newH s np) ⟨p, ys, rfl, upd_same, hy G c, np, s.free np⟩ k1
  · exact k.elim
def dSorted (a : DE) : DE := dB kSort (aCons a aNil)
/-- min, max of a list of data: the first of the least, of the greatest -/
def minO (d : Dat) (ds : List Dat) : Dat := ds.foldl (fun a y => if ltD y a = true then y else a) d
def maxO (d : Dat) (ds : List Dat) : Dat := ds.foldl (fun a y => if ltD a y = true then y else a) d
theorem minO_py (d : Dat) (ds : List Dat) : PySem.W.minD (toPy d) (toPyL ds) = toPy (minO d ds) := by
  unfold PySem.W.minD minO
  rw [toPyL_map, List.foldl_map]
  induction ds generalizing d with
  | nil => rfl
  | cons x xs ih =>
    rw [List.foldl_cons, List.foldl_cons, ← ih]
    congr 1
    unfold ltD
    split <;> rfl
theorem maxO_py (d : Dat) (ds : List Dat) : PySem.W.maxD (toPy d) (toPyL ds) = toPy (maxO d ds) := by
  unfold PySem.W.maxD maxO
  rw [toPyL_map, List.foldl_map]
  induction ds generalizing d with
  | nil => rfl
  | cons x xs ih =>
    rw [List.foldl_cons, List.foldl_cons, ← ih]
    congr 1
    unfold ltD
    split <;> rfl
theorem getD_py (ds : List Dat) (i : Nat) : (toPyL ds).getD i .none = toPy (ds.getD i .non) := by
  rw [toPyL_map, List.getD_eq_getElem?_getD, List.getD_eq_getElem?_getD, List.getElem?_map]
  cases ds[i]? with
  | none => unfold toPy; rfl
  | some d => rfl
/-- such that any two of them can be compared -/
structure AlkOk (ds : List Dat) : Prop where
  sh : shpL 63 ds = true
  al : PySem.W.AlikeAll (toPyL ds)
def rMmD (K : PySem.W.Frag) (m : Dat → List Dat → Dat) : List V → Hp → VK → Prop := fun vs H Q => ∃ (a : Addr) (d : Dat) (ds : List Dat) (xs : List V), vs = [V.ref a] ∧ SqL K H a xs ∧ RdL K H (d :: ds) xs ∧ AlkOk (d :: ds) ∧
  ∀ (i : Nat) (x : V), xs[i]? = some x → (d :: ds)[i]? = some (m d ds) → Q x H
theorem best_at {f : Dat → Dat → Bool} (d : Dat) (ds : List Dat) {i : Nat} (hi : i = argBest (fun i j => f ((d :: ds).getD i .non) ((d :: ds).getD j .non)) ds.length) : (d :: ds)[i]? = some (ds.foldl (fun a y => if f y a = true then y else a) d) := by
  obtain ⟨h1, h2⟩ := PySem.W.argBest_fold f Dat.non d ds ds.length (Nat.le_refl _)
  rw [← hi] at h1 h2
  rw [List.take_length] at h2
  rw [← h2, List.getD_eq_getElem?_getD]
  have : i < (d :: ds).length := by rw [List.length_cons]; omega
  rw [List.getElem?_eq_getElem this]; rfl
theorem vals_at : ∀ {xs : List V} {us : List Value}, Vals xs us → ∀ (i : Nat) (u : Value), us[i]? = some u → ∃ x, xs[i]? = some x ∧ RelV x u
  | [], _, .nil, i, u, h => by simp at h
  | x :: xs, _, .cons r t, i, u, h => by
    cases i with
    | zero => simp at h; subst h; exact ⟨x, rfl, r⟩
    | succ i => simpa using vals_at t i u (by simpa using h)
theorem AlkOk.plain {ds : List Dat} (h : AlkOk ds) : plainDL ds = true ∧ PyData.depthAll (toPyL ds) ≤ 63 := by
  obtain ⟨a, b, c⟩ := shpL_ok 63 ds h.sh
  exact ⟨a, c⟩
theorem cr_minD {X : Cx} (hc : X.calm = true) (hu : X.A.units + 66 < cLine) : CallR X (.builtin "min") (rMmD X.K minO) := by
  intro pins s σ H vs us Q I r h
  obtain ⟨a, d, ds, xs, rfl, hs, hr, ok, q⟩ := h
  obtain ⟨its, rv, hl, hz⟩ := I.list hs
  rw [Vals.ref1 r]
  obtain ⟨p1, p2⟩ := ok.plain
  have hlen := hr.len
  have hl2 := rv.length
  obtain ⟨as, ra⟩ := Dp.readsAll I _ _ _ (RdL.dp _ _ p1 hr) rv
  have ra' : ReadsAll s.heap its.toArray.toList (toPyL (d :: ds)) as := by simpa using ra
  refine PySem.call_min_walkH (PySem.W.iter_listW (A := X.A.in1) (I.ok.hd hc) hl.isList fun s₂ e W st hfp hw hk => ?_)
  refine ⟨_, _, _, _, _, _, _, s.heap, _, rfl, W, st, hfp, by rw [List.size_toArray, ← hl2, ← hlen, List.length_cons]; omega, hw, hk, PySem.W.cmpIn_lt (A := X.A.in1) ra' ok.al (by show X.A.units + 1 + _ < _; omega), fun v s' hP m => ?_⟩
  obtain ⟨h', tk, rfl, hk'⟩ := PySem.W.moved_old e rfl m
  have e1 : its.toArray.size - 1 = ds.length := by rw [List.size_toArray, ← hl2, ← hlen, List.length_cons]; omega
  rw [e1] at hP
  have ebt : (fun i j => PySem.W.dataLt ((toPyL (d :: ds)).getD i .none) ((toPyL (d :: ds)).getD j .none)) = fun i j => ltD ((d :: ds).getD i .non) ((d :: ds).getD j .non) := by
    funext i j; rw [getD_py, getD_py]; rfl
  rw [ebt] at hP
  have hP : its.toArray[argBest (fun i j => ltD ((d :: ds).getD i .non) ((d :: ds).getD j .non)) ds.length]? = some v := hP
  obtain ⟨x, hx, rx⟩ := vals_at rv _ v (by simpa using hP)
  exact ⟨x, H, I.kept (t' := tk) hk', rx, q _ x hx (best_at d ds rfl)⟩
theorem cr_maxD {X : Cx} (hc : X.calm = true) (hu : X.A.units + 66 < cLine) : CallR X (.builtin "max") (rMmD X.K maxO) := by
  intro pins s σ H vs us Q I r h
  obtain ⟨a, d, ds, xs, rfl, hs, hr, ok, q⟩ := h
  obtain ⟨its, rv, hl, hz⟩ := I.list hs
  rw [Vals.ref1 r]
  obtain ⟨p1, p2⟩ := ok.plain
  have hlen := hr.len
  have hl2 := rv.length
  obtain ⟨as, ra⟩ := Dp.readsAll I _ _ _ (RdL.dp _ _ p1 hr) rv
  have ra' : ReadsAll s.heap its.toArray.toList (toPyL (d :: ds)) as := by simpa using ra
  refine PySem.call_max_walkH (PySem.W.iter_listW (A := X.A.in1) (I.ok.hd hc) hl.isList fun s₂ e W st hfp hw hk => ?_)
  refine ⟨_, _, _, _, _, _, _, s.heap, _, rfl, W, st, hfp, by rw [List.size_toArray, ← hl2, ← hlen, List.length_cons]; omega, hw, hk, PySem.W.cmpIn_gt (A := X.A.in1) ra' ok.al (by show X.A.units + 1 + _ < _; omega), fun v s' hP m => ?_⟩
  obtain ⟨h', tk, rfl, hk'⟩ := PySem.W.moved_old e rfl m
  have e1 : its.toArray.size - 1 = ds.length := by rw [List.size_toArray, ← hl2, ← hlen, List.length_cons]; omega
  rw [e1] at hP
  have ebt : (fun i j => PySem.W.dataLt ((toPyL (d :: ds)).getD j .none) ((toPyL (d :: ds)).getD i .none)) = fun i j => ltD ((d :: ds).getD j .non) ((d :: ds).getD i .non) := by
    funext i j; rw [getD_py, getD_py]; rfl
  rw [ebt] at hP
  have hP : its.toArray[argBest (fun i j => ltD ((d :: ds).getD j .non) ((d :: ds).getD i .non)) ds.length]? = some v := hP
  obtain ⟨x, hx, rx⟩ := vals_at rv _ v (by simpa using hP)
  exact ⟨x, H, I.kept (t' := tk) hk', rx, q _ x hx (best_at (f := fun a b => ltD b a) d ds rfl)⟩
def kMm (m : Dat → List Dat → Dat) : List Rv → (Rv → Prop) → Prop := fun rs κ => match rs with
  | [x] => asL x fun ds => match ds with
    | d :: ds => AlkOk (d :: ds) ∧ κ (.v (m d ds))
    | [] => False
  | _ => False
theorem opa_mm {m : Dat → List Dat → Dat} : OpA K (rMmD K m) (kMm m) := by
  intro H0 G Hs H rs vs Q κ s s0 sh h k q
  unfold kMm at k
  split at k
  · obtain ⟨v, rfl, h1⟩ := rvs1 h
    obtain ⟨ds, e, k1⟩ := asL.of k
    split at k1
    · rename_i d ds
      obtain ⟨ok, k1⟩ := k1
      obtain ⟨l, us, rfl, b, c⟩ := h1.lst s s0 e
      refine ⟨l, d, ds, us, rfl, b, c.mono s, ok, fun i x hx hd => ?_⟩
      obtain ⟨y, hy, ry⟩ := c.get hd
      rw [hx] at hy
      cases hy
      exact q _ _ _ (.v (m d ds)) (Ext.refl s) ry k1
    · exact k1.elim
  · exact k.elim
section
variable {X : Cx} {W : WX} {p pos : Pos} {e : Expr} {d : DE}
theorem Room.u66 {k : Nat} {A : Around} (r : Room k A) : A.units + 66 < cLine := by have := r.un; omega
theorem Room.u65 {k : Nat} {A : Around} (r : Room k A) : A.units + 65 < cLine := by have := r.un; omega
theorem me_sorted {k : Nat} (C : Cn X W k) (hm : X.mg "sorted" = none) (h : ME X W e d) (hg : Gl X "sorted" := by rfl) (he : starEach [e] X.env = (false, eval e X.env) :: starEach [] X.env := by rfl) (hpl : (backTo pos (starEach [] X.env)).any (·.1) = false := by rfl) : ME X W (.Call (.Name "sorted" p) [e] [] pos) (dSorted d) :=
  me_B (cr_sortD (Room.u66 C.hr)) opa_sort (by decide +kernel) hm (ma_cons h ma_nil he) hg (by decide) (by decide) he hpl
theorem me_minD {k : Nat} (C : Cn X W k) (hm : X.mg "min" = none) (h : ME X W e d) (hg : Gl X "min" := by rfl) (he : starEach [e] X.env = (false, eval e X.env) :: starEach [] X.env := by rfl) (hpl : (backTo pos (starEach [] X.env)).any (·.1) = false := by rfl) : ME X W (.Call (.Name "min" p) [e] [] pos) (dB (kMm minO) (aCons d aNil)) :=
  me_B (cr_minD C.hc (Room.u66 C.hr)) opa_mm (by decide +kernel) hm (ma_cons h ma_nil he) hg (by decide) (by decide) he hpl
theorem me_maxD {k : Nat} (C : Cn X W k) (hm : X.mg "max" = none) (h : ME X W e d) (hg : Gl X "max" := by rfl) (he : starEach [e] X.env = (false, eval e X.env) :: starEach [] X.env := by rfl) (hpl : (backTo pos (starEach [] X.env)).any (·.1) = false := by rfl) : ME X W (.Call (.Name "max" p) [e] [] pos) (dB (kMm maxO) (aCons d aNil)) :=
  me_B (cr_maxD C.hc (Room.u66 C.hr)) opa_mm (by decide +kernel) hm (ma_cons h ma_nil he) hg (by decide) (by decide) he hpl
end
end DL
namespace L2
open PySem PySem.Spec PyProof.Rows
/-- the pair under a key -/
def prI (q : Addr × List Int) : Int × Int := (q.2.getD 0 0, q.2.getD 1 0)
def encI (q : Addr × List Int) : PyData := .tuple [.int (prI q).1, .int (prI q).2]
def LtP (p q : Int × Int) : Prop := p.1 < q.1 ∨ (p.1 = q.1 ∧ p.2 < q.2)
section
variable {P : Program} {w : World} {A : Around} {s : Shared} {E : Value → Shared → Prop}
theorem encI_eq {q : Addr × List Int} (h : q.2.length = 2) : encI q = .tuple (q.2.map .int) := by
  obtain ⟨a, l⟩ := q
  match l, h with
  | [x, y], _ => rfl
theorem sorted_setP {a : Addr} {L : List (Addr × List Int)} {es : Array (Int × Value)} {ep : Nat} {t : SetTable} {Q : Value → Shared → Prop} (R : SetTR P w s.heap a L es ep t) (hh : A.handled = none) (hu : A.units + 66 < cLine)
    (hB : ∀ p ∈ L, p.2.length = 2)
    (hQ : ∀ s' p (out : Array Value) (c : Nat) (L' : List (Addr × List Int)), (∀ b o, s.heap.get? b = some o → s'.heap.get? b = some o) → s'.gens = s.gens → s'.os = s.os → s.heap.objs.size ≤ p →
      s'.heap.get? p = some (seqObj "list" out c) → out.toList = L'.map (fun q => Value.ref q.1) → L'.Perm L → L'.Pairwise (fun q r => LtP (prI q) (prI r)) → Q (.ref p) s') :
    wpAny (model P w) A (call (.builtin "sorted") [.ref a]) Q E s := by
  obtain ⟨o, ho, hex, hd⟩ := R.ob
  have hsz := R.size
  have hfew := R.few
  refine Calls.call_function_entry kind_sorted plain_sorted entry_sorted (args_sorted1 _) ?_
  unfold Builtin.«sorted»
  refine wpAny_bind (m := checkCount "sorted" 1 1 _) (wpAny_pure ?_)
  refine wpAny_bind (collect_set (A := A.in1) hh ⟨o, ho, hex.1, hd⟩ R.fits (by unfold scanBound; omega) R.tab.ris R.led fun s1 vs k1 hz g1 o1 pm => ?_)
  have hes : es.toList.map (·.2) = L.map fun q => Value.ref q.1 := by
    rw [R.rows]
    unfold rowsOf
    rw [List.map_map] <;> rfl
  rw [hes] at pm
  have ord : ∀ vs : List Value, (∀ v ∈ vs, ∃ q ∈ L, v = Value.ref q.1) → ∃ L1 : List (Addr × List Int), vs = L1.map (fun q => Value.ref q.1) ∧ ∀ q ∈ L1, q ∈ L := by
    intro vs
    induction vs with
    | nil => intro _; exact ⟨[], rfl, fun q hq => (by cases hq)⟩
    | cons v vs ih =>
      intro hv
      obtain ⟨q, hq, e⟩ := hv v List.mem_cons_self
      obtain ⟨L1, e1, hs⟩ := ih fun u hu => hv u (List.mem_cons_of_mem _ hu)
      refine ⟨q :: L1, by rw [List.map_cons, e, e1], fun r hr => ?_⟩
      rcases List.mem_cons.mp hr with z | z
      · rw [z]; exact hq
      · exact hs r z
  have one : ∀ q ∈ L, ∀ r ∈ L, q.1 = r.1 → q = r := fun q hq r hr e => by
    have a1 := R.tup q hq
    have a2 := R.tup r hr
    rw [e] at a1
    exact Prod.ext e (a1.inj a2)
  have perm_of : ∀ L1 : List (Addr × List Int), (∀ q ∈ L1, q ∈ L) → (L1.map (fun q => Value.ref q.1)).Perm (L.map fun q => Value.ref q.1) → L1.Perm L := by
    intro L1 hs pm1
    have nL : L.Nodup := nodup_of_map R.nd
    have nref : (L.map fun q => Value.ref q.1).Nodup := by
      refine List.pairwise_map.mpr (List.Pairwise.imp_of_mem (fun {q r} hq hr hne e => ?_) nL)
      injection e with e
      exact hne (one q hq r hr e)
    have n1 : L1.Nodup := nodup_of_map (pm1.nodup_iff.mpr nref)
    refine (List.perm_ext_iff_of_nodup n1 nL).mpr fun q => ⟨hs q, fun hq => ?_⟩
    have hm : Value.ref q.1 ∈ L1.map (fun q => Value.ref q.1) := pm1.mem_iff.mpr (List.mem_map.mpr ⟨q, hq, rfl⟩)
    obtain ⟨r, hr, e⟩ := List.mem_map.mp hm
    injection e with e
    rw [← one r (hs r hr) q hq e]
    exact hr
  obtain ⟨L1, rfl, hs1⟩ := ord vs fun v hv => by
    obtain ⟨q, hq, e⟩ := List.mem_map.mp (pm.mem_iff.mp hv)
    exact ⟨q, hq, e.symm⟩
  have p1 := perm_of L1 hs1 pm
  have hl1 : L1.length < 64 := by rw [p1.length_eq]; exact hfew
  refine wpAny_bind (wpAny_newList ?_ (by rw [List.length_map, sizeLine_eq]; omega))
  have hoL : (s1.heap.push (seqObj "list" (L1.map fun q => Value.ref q.1).toArray 0)).get? s1.heap.objs.size = some (seqObj "list" (L1.map fun q => Value.ref q.1).toArray 0) := Heap.get?_push_size _ rfl
  have rd : ∀ q ∈ L1, Reads (s1.heap.push (seqObj "list" (L1.map fun q => Value.ref q.1).toArray 0)) (.ref q.1) (encI q) [] := fun q hq => by
    have hL := hs1 q hq
    obtain ⟨b, items, e, ⟨o2, ho2, hc2, n2, hd2⟩, hi⟩ := tupInts_of (P := P) (w := w) (isT_keep (R.tup q hL) fun b u e => Heap.get?_push_of_some (seqObj "list" (L1.map fun q => Value.ref q.1).toArray 0) (k1 b u e))
    cases e
    rw [encI_eq (hB q hL)]
    exact Reads.tuple ho2 hc2 hd2 (hi.reads _)
  have each : ∀ M : List (Addr × List Int), (∀ q ∈ M, q ∈ L1) → PySem.W.EachIs (fun (v : Value) (q : Addr × List Int) => v = .ref q.1) (M.map fun q => Value.ref q.1) M ∧
      PySem.W.EachIs (fun (v : Value) (q : Addr × List Int) => ∃ as, Reads (s1.heap.push (seqObj "list" (L1.map fun q => Value.ref q.1).toArray 0)) v (encI q) as ∧ s1.heap.objs.size ∉ as) (M.map fun q => Value.ref q.1) M := by
    intro M
    induction M with
    | nil => intro _; exact ⟨.nil, .nil⟩
    | cons q M ih =>
      intro h
      obtain ⟨a, b⟩ := ih fun r hr => h r (List.mem_cons_of_mem _ hr)
      exact ⟨.cons rfl a, .cons ⟨[], rd q (h q List.mem_cons_self), by simp⟩ b⟩
  obtain ⟨ea, eb⟩ := each L1 fun q h => h
  have dep : ∀ q, (encI q).depth ≤ 1 := fun q => by
    unfold encI PyData.depth PyData.depthAll PyData.depthAll PyData.depthAll PyData.depth
    decide
  refine wpAny_bind (wpAny_holding (PySem.W.list_sort_data (s := { s1 with heap := s1.heap.push (seqObj "list" (L1.map fun q => Value.ref q.1).toArray 0) }) (enc := encI) hoL ea eb ?_ ?_ (by rw [sizeLine_eq]; omega) (fun q _ => ?_) fun out _ h2 => ?_))
  · intro d hd d' hd'
    obtain ⟨q, _, rfl⟩ := List.mem_map.mp hd
    obtain ⟨r, _, rfl⟩ := List.mem_map.mp hd'
    rfl
  · refine .inl fun d hd => ?_
    obtain ⟨q, _, rfl⟩ := List.mem_map.mp hd
    exact ⟨_, _, rfl⟩
  · have := dep q
    show A.units + 1 + 1 + (encI q).depth < cLine
    omega
  · obtain ⟨c, hc⟩ := sortedHeap_at (vs := L1.map fun q => Value.ref q.1) (out := out.toArray) hoL
    generalize hS : L1.mergeSort (PySem.W.dataLe false encI) = S at h2
    have eo : out = S.map fun q => Value.ref q.1 := by
      have key : ∀ {out : List Value} {S : List (Addr × List Int)}, PySem.W.EachIs (fun (v : Value) (q : Addr × List Int) => v = .ref q.1) out S → out = S.map fun q => Value.ref q.1 := by
        intro out S h
        induction h with
        | nil => rfl
        | cons r _ ih => rw [List.map_cons, r, ih]
      exact key h2
    have ps : S.Perm L1 := by rw [← hS]; exact List.mergeSort_perm _ _
    have ele : PySem.W.dataLe false encI = fun p q => decide ((prI p).1 < (prI q).1 ∨ ((prI p).1 = (prI q).1 ∧ (prI p).2 ≤ (prI q).2)) := PySem.W.dataLe_ii (fun q => (prI q).1) (fun q => (prI q).2)
    have pw : S.Pairwise (fun q r => LtP (prI q) (prI r)) := by
      have h3 := List.pairwise_mergeSort (le := PySem.W.dataLe false encI) (fun a b c => by
        rw [ele]; simp only [decide_eq_true_eq]; omega) (fun a b => by
        rw [ele]; simp only [Bool.or_eq_true, decide_eq_true_eq]; omega) L1
      rw [hS, ele] at h3
      have nd : S.Pairwise (fun q r => q.2 ≠ r.2) := by
        have : (S.map (·.2)).Nodup := ((ps.trans p1).map (·.2)).nodup_iff.mpr R.nd
        exact List.pairwise_map.mp this
      refine List.Pairwise.imp_of_mem (fun {q r} hq hr h => ?_) (h3.and nd)
      obtain ⟨h4, h5⟩ := h
      have l1 := hB q (hs1 q (ps.mem_iff.mp hq))
      have l2 := hB r (hs1 r (ps.mem_iff.mp hr))
      have h4 := of_decide_eq_true h4
      obtain ⟨aq, lq⟩ := q
      obtain ⟨ar, lr⟩ := r
      match lq, lr, l1, l2 with
      | [x, y], [x', y'], _, _ =>
        have h4 : x < x' ∨ (x = x' ∧ y ≤ y') := h4
        show x < x' ∨ (x = x' ∧ y < y')
        have h5 : ¬ ([x, y] = [x', y']) := h5
        by_cases e : x = x'
        · by_cases e2 : y = y'
          · exact absurd (by rw [e, e2]) h5
          · omega
        · omega
    refine wpAny_pure ⟨_, rfl, hQ _ s1.heap.objs.size out.toArray c S (fun b u e => ?_) g1 o1 hz hc eo (ps.trans p1) pw⟩
    have q := k1 b u e
    have hlt := Heap.lt_size q
    show (sortedHeap (s1.heap.push (seqObj "list" (L1.map fun q => Value.ref q.1).toArray 0)) s1.heap.objs.size _ out.toArray).get? b = some u
    rw [sortedHeap_old (Nat.ne_of_lt hlt) (by rw [size_push']; exact Nat.lt_succ_of_lt hlt)]
    exact Heap.get?_push_of_some _ q
end
def rSortedP2 (K : PySem.W.Frag) (P : Program) (w : World) : List V → Hp → VK → Prop := fun vs H Q => ∃ (a : Addr) (L : List (Addr × List Int)), vs = [V.ref a] ∧ H a = some (SetTO P w a L) ∧ (∀ p ∈ L, SqT K H p.1 (p.2.map V.int)) ∧
  (∀ p ∈ L, p.2.length = 2) ∧
  ∀ (L' : List (Addr × List Int)) (p : Addr), L'.Perm L → L'.Pairwise (fun q r => LtP (prI q) (prI r)) → H p = none → Q (.ref p) (upd H p (.lst (L'.map fun q => V.ref q.1)))
theorem cr_sortedP2 {X : Cx} (hc : X.calm = true) (hu : X.A.units + 66 < cLine) : CallR X (.builtin "sorted") (rSortedP2 X.K X.prog X.w) := by
  intro pins s σ H vs us Q I r h
  obtain ⟨a, L, rfl, ha, hk, hB, q⟩ := h
  have R0 : SetT0 X.prog X.w s.heap a L := (I.hok a _ ha).1
  obtain ⟨es, ep, t, R⟩ := R0.full fun p hp => I.isT (hk p hp)
  rw [Vals.ref1 r]
  refine sorted_setP R (I.ok.hd hc) hu hB fun s' p out c L' k g o hp hg hout pm pw => ?_
  have hfew : L'.length < 64 := by rw [pm.length_eq]; exact R.few
  have hlen : (L'.map fun q => V.ref q.1).length ≤ sizeLine := by rw [List.length_map, sizeLine_eq]; omega
  have hn : H p = none := I.hok.fresh hp
  have hv : Vals (L'.map fun q => V.ref q.1) out.toList := by rw [hout]; exact vals_of_refs L'
  have J : Inv X pins σ (upd H p (.lst (L'.map fun q => V.ref q.1))) { s with heap := s'.heap, gens := s'.gens, drawn := s'.drawn, toks := s'.toks } :=
    I.call (ch := []) (Un.laid k hp hn) (I.hok.laid k hp ⟨hlen, out.toList, c, hv, hg⟩) (by rw [g]; exact I.bare) (fun _ z => nomatch z)
  have e : s' = { s with heap := s'.heap, gens := s'.gens, drawn := s'.drawn, toks := s'.toks } := by
    cases s'
    cases s
    cases o
    rfl
  rw [e]
  exact ⟨.ref p, _, J, rfl, q L' p pm pw hn⟩
end L2
namespace DL
open PySem PySem.Spec PyProof.Rows L2
variable {K : PySem.W.Frag}
/-! ### points -/
abbrev Pt := Int × Int
def pt (p : Pt) : Dat := .tup [.int p.1, .int p.2]
def ptD : Dat → Option Pt
  | .tup [.int x, .int y] => some (x, y)
  | _ => none
def ptsD : List Dat → Option (List Pt)
  | [] => some []
  | d :: ds => match ptD d, ptsD ds with
    | some p, some ps => some (p :: ps)
    | _, _ => none
theorem ptsD_map : ∀ ps : List Pt, ptsD (ps.map pt) = some ps
  | [] => rfl
  | p :: ps => by
    show (match ptD (pt p), ptsD (ps.map pt) with
      | some p, some ps => some (p :: ps)
      | _, _ => none) = _
    rw [ptsD_map ps]; rfl
theorem ptD_of {d : Dat} {p : Pt} (h : ptD d = some p) : d = pt p := by
  unfold ptD at h
  split at h
  · cases h; rfl
  · exact nomatch h
theorem ptsD_of : ∀ {ds : List Dat} {ps : List Pt}, ptsD ds = some ps → ds = ps.map pt
  | [], ps, h => by cases h; rfl
  | d :: ds, ps, h => by
    unfold ptsD at h
    split at h
    · rename_i p qs e1 e2
      cases h
      rw [ptD_of e1, ptsD_of e2]; rfl
    · exact nomatch h
theorem pts_keys {G H : Hp} (s : Same G H) : ∀ {ps : List Pt} {vs : List V}, RdL K G (ps.map pt) vs → ∃ ks : List (Addr × List Int), vs = ks.map (fun q => V.ref q.1) ∧ (∀ q ∈ ks, SqT K H q.1 (q.2.map V.int)) ∧ ks.map prI = ps ∧ (∀ q ∈ ks, q.2.length = 2 ∧ RdD K G (pt (prI q)) (.ref q.1)) ∧ ks.length = ps.length ∧ ∀ q ∈ ks, q.2 = [(prI q).1, (prI q).2]
  | [], vs, h => by
    unfold List.map RdL at h
    subst h
    exact ⟨[], rfl, by simp, rfl, by simp, rfl, by simp⟩
  | p :: ps, vs, h => by
    unfold List.map RdL at h
    obtain ⟨v, r, rfl, h1, h2⟩ := h
    obtain ⟨ks, e, k1, k2, k3, k4, k5⟩ := pts_keys s h2
    have h1' := h1
    unfold pt RdD at h1
    obtain ⟨a, us, rfl, g, r1⟩ := h1
    have hu : us = [V.int p.1, V.int p.2] := by
      have := RdL.toInts (K := K) (ns := [p.1, p.2]) r1
      exact this
    subst hu
    refine ⟨(a, [p.1, p.2]) :: ks, by rw [e]; rfl, fun q hq => ?_, by rw [List.map_cons, k2]; rfl, fun q hq => ?_, by rw [List.length_cons, List.length_cons, k4], fun q hq => ?_⟩
    · rcases List.mem_cons.mp hq with z | z
      · rw [z]; exact SqT.of (s _ _ g)
      · exact k1 q z
    · rcases List.mem_cons.mp hq with z | z
      · rw [z]; exact ⟨rfl, h1'⟩
      · exact k3 q z
    · rcases List.mem_cons.mp hq with z | z
      · rw [z]; rfl
      · exact k5 q z
theorem sqT_mono {H H' : Hp} (s : Same H H') {a : Addr} {xs : List V} (h : SqT K H a xs) : SqT K H' a xs := by
  rcases h with (h | ⟨o, h⟩) | h
  · exact .inl (.inl (s _ _ h))
  · exact .inl (.inr ⟨o, s _ _ h⟩)
  · exact .inr h
theorem pts_rd {G : Hp} : ∀ {L : List (Addr × List Int)}, (∀ q ∈ L, RdD K G (pt (prI q)) (.ref q.1)) → RdL K G ((L.map prI).map pt) (L.map fun q => V.ref q.1)
  | [], _ => RdL.nil
  | q :: L, h => RdL.cons (h q List.mem_cons_self) (pts_rd fun r hr => h r (List.mem_cons_of_mem _ hr))
/-- sorted(set(x)) of fewer than 64 points -/
def dSortedSet (a : DE) : DE := fun ρ κ ε => a ρ (fun x => asL x fun ds => onS (ptsD ds) fun ps => ps.length < 64 ∧ ∀ L : List Pt, L.Pairwise LtP → (∀ p, p ∈ L ↔ p ∈ ps) → κ (.n (L.map pt))) ε
section
variable {X : Cx} {W : WX} {e : Expr} {d : DE} {p p2 pos pos2 : Pos}
theorem me_sortedSet {k : Nat} (C : Cn X W k) (hm : X.mg "sorted" = none) (hm2 : X.mg "set" = none) (h : ME X W e d) (hg : Gl X "sorted" := by rfl) (hg2 : Gl X "set" := by rfl)
    (he : starEach [e] X.env = (false, eval e X.env) :: starEach [] X.env := by rfl) (hpl : (backTo pos2 (starEach [] X.env)).any (·.1) = false := by rfl)
    (he2 : starEach [.Call (.Name "set" p2) [e] [] pos2] X.env = (false, eval (.Call (.Name "set" p2) [e] [] pos2) X.env) :: starEach [] X.env := by rfl) (hpl2 : (backTo pos (starEach [] X.env)).any (·.1) = false := by rfl) :
    ME X W (.Call (.Name "sorted" p) [.Call (.Name "set" p2) [e] [] pos2] [] pos) (dSortedSet d) := by
  obtain ⟨t, pa, oa⟩ := h
  refine ⟨_, pe_callB (cr_sortedP2 C.hc (Room.u66 C.hr)) hg hm (by decide +kernel) (pa_cons (pe_callTy (cr_setOfT C.hc C.hr.units) hg2 hm2 (by decide +kernel) (pa_cons pa pa_nil he) (by decide) (by decide) he hpl) pa_nil he2) (by decide) (by decide) he2 hpl2, fun H0 G0 G ρ σ H Q κ ε R h hq hx => ?_⟩
  refine oa H0 G0 G ρ σ H _ _ ε R h (fun v H1 G1 r x1 h1 k1 => ?_) hx
  obtain ⟨ds, ed, k2⟩ := asL.of k1
  obtain ⟨ps, ep, hlt, k3⟩ := onS.of k2
  rw [ptsD_of ep] at ed
  have R1 := R.on x1
  obtain ⟨l, vs, rfl, b, c⟩ := h1.lst x1.s R1.ext.h ed
  obtain ⟨ks, rfl, g1, g2, g3, g4, g5⟩ := pts_keys x1.s c
  refine ⟨l, ks, rfl, b, g1, by omega, fun a L na hL hks => ?_⟩
  have x2 := Ext.newH (o := SetTO X.prog X.w a L) x1.s na
  refine ⟨a, L, rfl, upd_same, fun q hq => ?_, fun q hq => (g3 q (hL q hq)).1, fun L' p pm pw np => ?_⟩
  · exact sqT_mono x2.h (g1 q (hL q hq))
  · have x3 := Ext.newH (o := HO.lst (L'.map fun q => V.ref q.1)) x2.s np
    have hL' : ∀ q ∈ L', q ∈ ks := fun q hq => hL q (pm.mem_iff.mp hq)
    have x23 := (x1.trans x2).trans x3
    refine hq _ _ G1 (.n ((L'.map prI).map pt)) x23 ⟨p, _, rfl, upd_same, pts_rd fun q hq => (g3 q (hL' q hq)).2, (x1.trans x2).h.free np, x2.s.free np⟩ (k3 _ (List.pairwise_map.mpr pw) fun z => ⟨fun hz => ?_, fun hz => ?_⟩)
    · obtain ⟨q, hq, rfl⟩ := List.mem_map.mp hz
      rw [← g2]
      exact List.mem_map.mpr ⟨q, hL' q hq, rfl⟩
    · rw [← g2] at hz
      obtain ⟨q, hq, rfl⟩ := List.mem_map.mp hz
      have := hks q hq
      obtain ⟨r, hr, er⟩ := List.mem_map.mp this
      refine List.mem_map.mpr ⟨r, pm.mem_iff.mpr hr, ?_⟩
      unfold prI
      rw [er]
end
end DL
namespace RT
open PySem PySem.Spec PyProof.Rows L2
section
variable {prog : Program} {w : World} {A : Around} {E : Value → Shared → Prop} {s : Shared}
theorem call_list_rev {it l : Addr} {items : Array Value} {Q : Value → Shared → Prop} (hh : A.handled = none) (hit : s.heap.IsRevIter it l ((items.size : Int) - 1)) (hl : s.heap.IsList l items) (hne : l ≠ it) (hn : items.size ≤ sizeLine)
    (hQ : ∀ (h' : Heap) (tk : Nat) (acc : Array Value) (c : Nat), (∀ b o, b ≠ it → s.heap.get? b = some o → h'.get? b = some o) → h'.get? s.heap.objs.size = some (seqObj "list" acc c) → ItemsOf (fun i v => items[items.size - 1 - i]? = some v) acc items.size →
      Q (.ref s.heap.objs.size) { s with heap := h', toks := tk }) :
    wpAny (model prog w) A (call (.type "list") [.ref it]) Q E s := by
  obtain ⟨oi, hoi, _⟩ := id hit
  obtain ⟨ol, hol, _⟩ := id hl
  have hSi : s.heap.objs.size ≠ it := Nat.ne_of_gt (Heap.lt_size hoi)
  have hSl : s.heap.objs.size ≠ l := Nat.ne_of_gt (Heap.lt_size hol)
  have hSf : s.heap.objs.size ∉ [it, l] := by simp only [List.mem_cons, List.not_mem_nil, or_false, not_or]; exact ⟨hSi, hSl⟩
  refine callType_codes (Q₁ := fun obj s₁ => obj = .ref s.heap.objs.size ∧ s₁ = { s with heap := s.heap.push { cls := .type "list", data := .seq #[] } }) F.called_list (F.typeCall_list_1 _) F.entry_list_init
    (code_list_new _ ⟨rfl, rfl⟩) fun obj s₁ h₁ => ?_
  obtain ⟨rfl, rfl⟩ := h₁
  have hS : (s.heap.push { cls := .type "list", data := .seq #[] }).get? s.heap.objs.size = some { cls := .type "list", data := .seq #[] } := Heap.get?_push_size _ rfl
  refine ⟨⟨_, hS, rfl⟩, F.args_list_init_2 _ _, ?_⟩
  show wpAny _ A.in1.in1 (do let old ← Builtin.List.listItems (.ref s.heap.objs.size); Builtin.List.listUpdate (.ref s.heap.objs.size) (fun _ => #[]); letGo old.toList.reverse; Builtin.List.listExtendWith (.ref s.heap.objs.size) (.ref it) .none) _ _ _
  refine wpAny_bind ?_
  unfold Builtin.List.listItems
  refine wpAny_bind (wpAny_seqItems hS rfl (wpAny_pure ?_))
  show wpAny _ A.in1.in1 (updateSeq s.heap.objs.size (fun _ => #[]) >>= fun _ => letGo (#[] : Array Value).toList.reverse >>= fun _ => Builtin.List.listExtendWith (.ref s.heap.objs.size) (.ref it) .none) _ _ _
  refine wpAny_bind (wpAny_updateSeq hS rfl ?_)
  have hS2 := Heap.get?_update_self (Obj.mapSeq (fun _ => (#[] : Array Value))) hS rfl
  refine wpAny_bind (wpAny_letGo ?_)
  unfold Builtin.List.listExtendWith
  have k1 : ∀ b o, s.heap.get? b = some o → (s.heap.push { cls := .type "list", data := .seq #[] }).get? b = some o := fun b o e => Heap.get?_push_of_some _ e
  have k2 : ∀ b o, s.heap.get? b = some o → ((s.heap.push { cls := .type "list", data := .seq #[] }).update s.heap.objs.size (Obj.mapSeq (fun _ => (#[] : Array Value)))).get? b = some o := fun b o e =>
    (Heap.get?_update_other _ _ (Ne.symm (Nat.ne_of_lt (Heap.lt_size e)))).trans (k1 b o e)
  generalize hh2 : (s.heap.push { cls := .type "list", data := .seq #[] }).update s.heap.objs.size (Obj.mapSeq (fun _ => (#[] : Array Value))) = h2 at hS2 k2
  have hit1 : h2.IsRevIter it l ((items.size : Int) - 1) := hit.at fun o e => k2 _ _ e
  have hl1 : h2.IsList l items := hl.at fun o e => k2 _ _ e
  have hT : ({ s with heap := h2 } : Shared).TypeIs (.ref it) "list_reverseiterator" := Heap.IsRevIter.typeIs (s := { s with heap := h2 }) hit1
  have h1 : Builtin.List.listSameRef (.ref s.heap.objs.size) (.ref it) = false := by simp [Builtin.List.listSameRef, hSi]
  have W := (Walks.listRev (prog := prog) (w := w) (A := A.in1.in1) hh it l hne items).toS
  refine wpAny_bind (wpAny_typeOf hT ?_)
  rw [if_neg (by rw [h1]; decide)]
  refine wpAny_bind (wpAny_pyIter_revIter (s := { s with heap := h2 }) hit1 ?_)
  refine wpAny_bind (wpAny_holding ?_)
  unfold Builtin.List.listLengthHint
  refine wpAny_bind (wpAny_specialOf hT nolen_lri ?_)
  show wpAny _ A.in1.in1 (specialOf (Value.ref it) (Str.ofString "__length_hint__") >>= _) _ _ _
  refine wpAny_bind (wpAny_specialOf hT hint_lri ?_)
  generalize hid : ("list_reverseiterator.__length_hint__" : String) = id0
  wp_delta
  rw [show splitId id0 = some ("list_reverseiterator", "__length_hint__") from by subst hid; decide +kernel]
  subst hid
  refine wpAny_bind (wpAny_isInstance (b := true) hT (by rw [isSubtype_type]; kernel_rfl) ?_)
  refine wpAny_pure ?_
  rw [if_neg (by decide)]
  have e0 : ((items.size : Nat) : Int) - 1 - ((0 : Nat) : Int) = (items.size : Int) - 1 := by omega
  refine wpAny_pure ⟨plainId_quiet F.plain_extend_loop _, codeAny_extend_loopS W hn _ hSf _ items.size 0 _ _ _ rfl (Nat.zero_le _) ⟨Nat.zero_le _, by rw [e0]; exact hit1, hl1⟩ hS2 (ItemsOf.nil _) fun s' acc' c' hm hS' hacc => ?_⟩
  rw [Moved.eq_with hm]
  refine ⟨rfl, hQ s'.heap s'.toks acc' c' (fun b o hb e => hm.heap b o (fun hmem => ?_) (k2 _ _ e)) hS' hacc⟩
  rcases List.mem_cons.mp hmem with e' | hmem
  · exact absurd (Heap.lt_size e) (by rw [e']; exact Nat.lt_irrefl _)
  · exact hb (List.mem_singleton.mp hmem)
end
end RT
namespace DL
open PySem PySem.Spec PyProof.Rows L2
variable {K : PySem.W.Frag}

/-! ### list(reversed(x)) -/
def tListRev (K : PySem.W.Frag) (te : TE) : TE := fun σ H Q => te σ H fun v H1 => ∃ (a : Addr) (xs : List V), v = .ref a ∧ SqL K H1 a xs ∧ ∀ q, H1 q = none → Q (.ref q) (upd H1 q (.lst xs.reverse))
def dRev (a : DE) : DE := fun ρ κ ε => a ρ (fun x => asL x fun ds => κ (.n ds.reverse)) ε
section
variable {X : Cx} {W : WX} {e : Expr} {te : TE} {d : DE} {p p2 pos pos2 : Pos}
theorem pe_listRev (hc : X.calm = true) (hg : Gl X "list") (hm : X.mg "list" = none) (hg2 : Gl X "reversed") (hm2 : X.mg "reversed" = none) (he : PE X e te)
    (hs : starEach [e] X.env = (false, eval e X.env) :: starEach [] X.env := by rfl)
    (hs2 : starEach [.Call (.Name "reversed" p2) [e] [] pos2] X.env = (false, eval (.Call (.Name "reversed" p2) [e] [] pos2) X.env) :: starEach [] X.env := by rfl) :
    PE X (.Call (.Name "list" p) [.Call (.Name "reversed" p2) [e] [] pos2] [] pos) (tListRev X.K te) := by
  refine ⟨fun pins s σ H Q I h => ?_⟩
  refine Call_ (ld_blt I hg hm boot_list (PyProof.Rows.callWith_type1 (args_cons (Call_ (ld_blt I hg2 hm2 PyProof.Rows.boot_reversed (PyProof.Rows.callWith_type1 (args_cons (thn (he.run pins s σ H _ I h) fun u s1 ⟨v, H1, I1, r1, q1⟩ => args_nil ?_) hs) hs rfl))) hs2) hs2 rfl))
  obtain ⟨a, xs, ev, hq, q⟩ := q1
  subst ev
  obtain rfl : u = Value.ref a := r1
  obtain ⟨its, rv, p', hz⟩ := I1.list hq
  refine call_reversed_list p'.isList (args_nil ?_)
  have hl := p'.isList
  obtain ⟨ol, hol, _⟩ := id hl
  have hne : a ≠ s1.heap.objs.size := Nat.ne_of_lt (Heap.lt_size hol)
  have hn : its.toArray.size ≤ sizeLine := by rw [List.size_toArray, ← rv.length]; exact hz
  refine RT.call_list_rev (s := { s1 with heap := s1.heap.push (revObj a ((its.toArray.size : Int) - 1)) }) (I1.ok.hd hc) ⟨_, Heap.get?_push_size _ rfl, rfl, rfl⟩ (hl.push _) hne hn fun h' tk acc c hk hD hi => ?_
  have hsz : (s1.heap.push (revObj a ((its.toArray.size : Int) - 1))).objs.size = s1.heap.objs.size + 1 := size_push' _ _
  have hD : h'.get? (s1.heap.push (revObj a ((its.toArray.size : Int) - 1))).objs.size = some (seqObj "list" acc c) := hD
  rw [hsz] at hD
  show EP X pins σ Q (.ref (s1.heap.push (revObj a ((its.toArray.size : Int) - 1))).objs.size) _
  rw [hsz]
  refine ⟨.ref _, upd H1 (s1.heap.objs.size + 1) (.lst xs.reverse), I1.laid (t' := tk) (fun b u e => hk b u (Nat.ne_of_lt (Heap.lt_size e)) (Heap.get?_push_of_some _ e)) (Nat.le_succ _) ⟨by rw [List.length_reverse]; exact hz, acc.toList, c, RT.vals_rev rv hi, ?_⟩, rfl, q _ (I1.hok.fresh (Nat.le_succ _))⟩
  rw [Array.toArray_toList]
  exact hD
theorem me_listRev {k : Nat} (C : Cn X W k) (hm : X.mg "list" = none) (hm2 : X.mg "reversed" = none) (h : ME X W e d) (hg : Gl X "list" := by rfl) (hg2 : Gl X "reversed" := by rfl)
    (hs : starEach [e] X.env = (false, eval e X.env) :: starEach [] X.env := by rfl)
    (hs2 : starEach [.Call (.Name "reversed" p2) [e] [] pos2] X.env = (false, eval (.Call (.Name "reversed" p2) [e] [] pos2) X.env) :: starEach [] X.env := by rfl) :
    ME X W (.Call (.Name "list" p) [.Call (.Name "reversed" p2) [e] [] pos2] [] pos) (dRev d) := by
  obtain ⟨t, pa, oa⟩ := h
  refine ⟨_, pe_listRev C.hc hg hm hg2 hm2 pa hs hs2, fun H0 G0 G ρ σ H Q κ ε R h hq hx => ?_⟩
  refine oa H0 G0 G ρ σ H _ _ ε R h (fun v H1 G1 r x1 h1 k1 => ?_) hx
  obtain ⟨ds, ed, k2⟩ := asL.of k1
  have R1 := R.on x1
  obtain ⟨l, vs, rfl, b, c⟩ := h1.lst x1.s R1.ext.h ed
  refine ⟨l, vs, rfl, b, fun q nq => ?_⟩
  have y := Ext.newH (o := HO.lst vs.reverse) x1.s nq
  exact hq _ _ _ (.n ds.reverse) (x1.trans y) ⟨q, _, rfl, upd_same, c.reverse, x1.h.free nq, x1.s.free nq⟩ k2
end

/-! ### for over reversed(list) -/
def iRev (c : Bool) (a : DE) : DI := fun ρ κ ε => a ρ (fun r => stays c r = true ∧ asL r fun ds => κ ds.reverse) ε
theorem itOk_rev {K : PySem.W.Frag} {a : Addr} {vs : List V} {ds : List Dat} {B G : Hp} (h : ∀ H, Same B H → Same G H → SqL K H a vs) (r : RdL K G ds vs) : ItOk K (Itv K a vs.length) ds.reverse B G := by
  have hl := r.len
  refine ⟨fun i H b g hi => ?_, fun i H b g hi => by rw [List.length_reverse] at hi; show vs.length ≤ i; omega, fun i H x H' Gc d b g gc hd hy => ?_⟩
  · rw [List.length_reverse] at hi
    exact ⟨by omega, vs, _, h H b g, List.getElem?_eq_getElem (by omega : vs.length - 1 - i < vs.length)⟩
  · obtain ⟨rfl, q⟩ := hy
    have hi : i < ds.length := by
      by_cases hi : i < ds.length
      · exact hi
      · rw [List.getElem?_eq_none (by rw [List.length_reverse]; omega)] at hd; exact nomatch hd
    rw [List.getElem?_reverse hi] at hd
    obtain ⟨v, e1, e2⟩ := r.get hd
    have e := q vs (h _ b (g.trans gc))
    rw [← hl, e1] at e
    cases e
    exact ⟨Gc, Ext.refl gc, RdD.mono g _ _ e2⟩
section
variable {X : Cx} {W : WX} {tg e : Expr} {d : DE} {c : Bool} {p pos : Pos}
theorem mi_rev (hm : X.mg "reversed" = none) (h : ME X W e d) (hg : Gl X "reversed" := by rfl) (hs : starEach [e] X.env = (false, eval e X.env) :: starEach [] X.env := by rfl) : MI X W c tg (.Call (.Name "reversed" p) [e] [] pos) (iRev c d) := by
  obtain ⟨t, pa, oa⟩ := h
  refine ⟨_, RT.pi_revA hg hm pa hs, fun H0 G0 G ρ σ H R κ ε RR h hq hx => ?_⟩
  refine oa H0 G0 G ρ σ H _ _ ε RR h (fun v H1 G1 r x1 hr k => ?_) hx
  obtain ⟨ks, k⟩ := k
  obtain ⟨ds, ed, k⟩ := asL.of k
  have R1 := RR.on x1
  obtain ⟨l, vs, rfl, b1, c1⟩ := hr.lst x1.s R1.ext.h ed
  refine ⟨l, vs, rfl, .inl ⟨b1, ?_⟩⟩
  by_cases hcc : c = true
  · refine hq _ H1 G1 ds.reverse x1 ?_ k
    rw [if_pos hcc]
    exact itOk_rev (vs := vs) (fun H b g => rd_mono b b1) c1
  · cases r with
    | v d0 =>
      have ed : d0 = .lst ds := ed
      subst ed
      have hr : RdD X.K G1 (.lst ds) (.ref l) := hr
      unfold RdD at hr
      obtain ⟨l', vs', e1, b2, c2⟩ := hr
      cases e1
      have el : vs'.length = vs.length := by rw [← c2.len, c1.len]
      exact hq _ H1 G1 ds.reverse x1 (el ▸ itOk_rev (vs := vs') (fun H b g => rd_mono g b2) c2) k
    | n es =>
      injection ed with ed; subst ed
      obtain ⟨l', vs', e1, b2, c2, n2, g2⟩ := hr
      cases e1
      have el : vs'.length = vs.length := by rw [← c2.len, c1.len]
      obtain ⟨y, s⟩ := x1.put n2 b2 g2
      exact hq _ H1 _ es.reverse y (el ▸ itOk_rev (vs := vs') (fun H b g => sq_of (g _ _ upd_same)) (c2.mono s)) k
    | b es =>
      injection ed with ed; subst ed
      obtain ⟨l', vs', e1, b2, c2⟩ := hr
      cases e1
      have el : vs'.length = vs.length := by rw [← c2.len, c1.len]
      refine hq _ H1 G1 es.reverse x1 ?_ k
      rw [if_neg hcc]
      exact (el ▸ itOk_rev (vs := vs') (fun H b g => rd_mono b b2) c2)
    | o es =>
      cases c with
      | true => exact absurd rfl hcc
      | false => exact nomatch ks
end

/-! ### tuples: +, slices, tuple(x); list * n -/
def kCatT : Rv → Rv → (Rv → Prop) → (Str → Prop) → Prop := fun x y κ _ => match x, y with
  | .v (.tup ds), .v (.tup es) => Nat.ble (ds.length + es.length) 100000 = true ∧ κ (.v (.tup (ds ++ es)))
  | _, _ => False
theorem op2_catT : Op2 K (rCatA K) kCatT := by
  intro H0 G Hs H x y v u Q κ ε s s0 sh rx ry h q
  unfold kCatT at h
  split at h
  · rename_i ds es
    obtain ⟨hz, hk⟩ := h
    have rx0 : RdD K G (.tup ds) v := rx
    have ry0 : RdD K G (.tup es) u := ry
    obtain ⟨a, vs, rfl, b1, c1⟩ := rvT s rx
    obtain ⟨b, ws, rfl, b2, c2⟩ := rvT s ry
    refine ⟨a, b, vs, ws, rfl, rfl, b1, b2, by rw [← c1.len, ← c2.len]; exact small_of hz, fun e => ?_, fun _ e => ?_, fun _ _ p np => ?_⟩
    · have : ds = [] := List.eq_nil_of_length_eq_zero (by rw [c1.len, e]; rfl)
      subst this
      exact q _ H G (.v (.tup es)) (Ext.refl s) ry0 hk
    · have : es = [] := List.eq_nil_of_length_eq_zero (by rw [c2.len, e]; rfl)
      subst this
      rw [List.append_nil] at hk
      exact q _ H G (.v (.tup ds)) (Ext.refl s) rx0 hk
    · have y := Ext.newG (o := HO.tup (vs ++ ws)) s np
      refine q _ _ _ (.v (.tup (ds ++ es))) y ?_ hk
      show RdD K _ _ _
      unfold RdD
      exact ⟨p, _, rfl, upd_same, (c1.append c2).mono y.g⟩
  · exact h.elim
def dCatT := dBin kCatT
section
variable {X : Cx} {W : WX} {a b : Expr} {lo hi : Option Expr} {da db : DE} {dl dh : DO} {pos p2 : Pos}
theorem me_catT (ha : ME X W a da) (hb : ME X W b db) : ME X W (.BinOp a .Add b pos) (dCatT da db) := me_bin op_catA op2_catT ha hb
end
def kTuple : List Rv → (Rv → Prop) → Prop := fun rs κ => match rs with
  | [x] => asQ x fun ds => κ (.v (.tup ds))
  | _ => False
theorem opa_tuple {K : PySem.W.Frag} : OpA K (fun xs H Q => ∃ p ys, xs = [.ref p] ∧ ((SqL K H p ys ∧ ∀ l, H l = none → Q (.ref l) (upd H l (.tup ys))) ∨ (SqT K H p ys ∧ Q (.ref p) H))) kTuple := by
  intro H0 G Hs H rs vs Q κ s s0 sh h k q
  unfold kTuple at k
  split at k
  · obtain ⟨v, rfl, h1⟩ := rvs1 h
    obtain ⟨ds, e, k1⟩ := asQ.of k
    rcases e with e | e
    · obtain ⟨l, us, rfl, b, c⟩ := h1.lst s s0 e
      refine ⟨l, us, rfl, .inl ⟨b, fun p np => ?_⟩⟩
      have y := Ext.newG (o := HO.tup us) s np
      refine q _ _ _ (.v (.tup ds)) y ?_ k1
      show RdD K _ _ _
      unfold RdD
      exact ⟨p, _, rfl, upd_same, c.mono y.g⟩
    · rename_i x
      cases x with
      | v d0 =>
        have e : d0 = .tup ds := e
        subst e
        have h10 : RdD K G (.tup ds) v := h1
        obtain ⟨l, us, rfl, b, c⟩ := rvT s h1
        exact ⟨l, us, rfl, .inr ⟨b, q _ H G (.v (.tup ds)) (Ext.refl s) h10 k1⟩⟩
      | n _ => exact nomatch e
      | b _ => exact nomatch e
      | o _ => exact nomatch e
  · exact k.elim
/-- [..] * n, the list made here -/
def kRep : Rv → Rv → (Rv → Prop) → (Str → Prop) → Prop := fun x y κ _ => match x with
  | .n ds => asI y fun k => (-(2 ^ 63) ≤ k ∧ k < 2 ^ 63 ∧ ds.length * k.toNat ≤ sizeLine) ∧ κ (.n (List.replicate k.toNat ds).flatten)
  | _ => False
theorem RdL.rep {G : Hp} {ds : List Dat} {vs : List V} (h : RdL K G ds vs) : ∀ k : Nat, RdL K G (List.replicate k ds).flatten (List.replicate k vs).flatten
  | 0 => RdL.nil
  | k + 1 => by
    rw [List.replicate_succ, List.replicate_succ, List.flatten_cons, List.flatten_cons]
    exact h.append (RdL.rep h k)
theorem op2_rep : Op2 K rRep kRep := by
  intro H0 G Hs H x y v u Q κ ε s s0 sh rx ry h q
  unfold kRep at h
  split at h
  · rename_i ds
    obtain ⟨k, rfl, ⟨z1, z2, z3⟩, hk⟩ := asI.of h
    obtain ⟨l, vs, rfl, b, c, _⟩ := rx
    refine ⟨l, k, vs, rfl, rvI ry, b, z1, z2, by rw [← c.len]; exact z3, fun p np => ?_⟩
    exact q _ _ _ (.n _) (Ext.newH s np) ⟨p, _, rfl, upd_same, c.rep _, np, s.free np⟩ hk
  · exact h.elim
def dRep := dBin kRep
section
variable {X : Cx} {W : WX} {a b e : Expr} {es : List Expr} {da' : DA} {da db : DE} {p pos : Pos}
theorem me_rep (ha : ME X W a da) (hb : ME X W b db) : ME X W (.BinOp a .Mult b pos) (dRep da db) := me_bin op_rep op2_rep ha hb
theorem me_tuple (hm : X.mg "tuple" = none) (ha : MA X W (e :: es) da') (hg : Gl X "tuple" := by rfl) (he : starEach (e :: es) X.env = (false, eval e X.env) :: starEach es X.env := by rfl) (hpl : (backTo pos (starEach es X.env)).any (·.1) = false := by rfl) : ME X W (.Call (.Name "tuple" p) (e :: es) [] pos) (dB kTuple da') :=
  me_Ty call_tuple_of opa_tuple (by decide +kernel) hm ha hg (by decide) (by decide) he hpl
end
end DL
namespace DL
open PySem PySem.Spec PyProof.Rows L2
variable {K : PySem.W.Frag}
theorem Cn.tr {X : Cx} {W W' : WX} {k : Nat} (C : Cn X W' k) {pn : List (Addr × Obj)} {xe : Value → Shared → Prop} (tk : Takes (X.tr pn xe) W) (po : PassesOwn (model X.prog X.w) X.A X.env xe) : Cn (X.tr pn xe) W k := ⟨tk, po, C.hc, C.hr, C.nd⟩
theorem Xm.mk' {mg : MG} {a b : Str} {r : Bool} {C D : Addr} (h1 : mg a = some (.ref C)) (h2 : mg b = some (.ref D)) (h3 : PySem.W.exmOne K (.ref C) (.ref D) = some r) : Xm K mg a b r := ⟨C, D, h1, h2, h3⟩
theorem Xi.mk' {mg : MG} {a b : Str} {r : Bool} {C D : Addr} (h1 : mg a = some (.ref C)) (x : ExcC K C) (h2 : mg b = some (.ref D)) (k : PySem.W.keepIn K (.ref D) = true) (h3 : PySem.W.kitOne K (.ref C) (.ref D) = some r) : Xi K mg a b r := ⟨C, h1, x, .inl ⟨D, h2, k, h3⟩⟩
theorem Xi.mkV {mg : MG} {a : Str} {r : Bool} {C : Addr} (h1 : mg a = some (.ref C)) (x : ExcC K C) (h2 : mg "ValueError" = none) (h3 : PySem.W.kitOne K (.ref C) (.type "ValueError") = some r) : Xi K mg a "ValueError" r := ⟨C, h1, x, .inr ⟨h2, by decide +kernel, rfl, h3⟩⟩
/-! ### x + y of ints, lists, tuples -/
def kPlus : Rv → Rv → (Rv → Prop) → (Str → Prop) → Prop := fun x y κ ε => match x.dat, y.dat with
  | .int i, .int j => κ (.v (.int (i + j)))
  | .lst ds, .lst es => ds.length + es.length ≤ sizeLine ∧ κ (.n (ds ++ es))
  | .tup ds, .tup es => Nat.ble (ds.length + es.length) 100000 = true ∧ κ (.v (.tup (ds ++ es)))
  | _, _ => False
theorem Rv.int_of {x : Rv} {i : Int} (e : x.dat = .int i) : x = .v (.int i) := by
  cases x with
  | v d => have e : d = .int i := e; rw [e]
  | n _ => exact nomatch e
  | b _ => exact nomatch e
  | o _ => exact nomatch e
theorem op2_or {r r' : R2} {k1 k2 k : Rv → Rv → (Rv → Prop) → (Str → Prop) → Prop} (h1 : Op2 K r k1) (h2 : Op2 K r' k2) (h : ∀ x y κ ε, k x y κ ε → k1 x y κ ε ∨ k2 x y κ ε) : Op2 K (fun x y H Q => r x y H Q ∨ r' x y H Q) k := by
  intro H0 G Hs H x y v u Q κ ε s s0 sh rx ry hk q
  rcases h x y κ ε hk with hk | hk
  · exact .inl (h1 H0 G Hs H x y v u Q κ ε s s0 sh rx ry hk q)
  · exact .inr (h2 H0 G Hs H x y v u Q κ ε s s0 sh rx ry hk q)
theorem op2_plus : Op2 K (fun x y H Q => rI0 (fun i j => .int (i + j)) x y H Q ∨ (rCatR K x y H Q ∨ rCatA K x y H Q)) kPlus := by
  refine op2_or (k1 := kI0 fun i j => .int (i + j)) (k2 := fun x y κ ε => kCat x y κ ε ∨ kCatT x y κ ε) (op2_I0 rdI) (op2_or op2_cat op2_catT fun x y κ ε h => h) fun x y κ ε h => ?_
  unfold kPlus at h
  split at h
  · rename_i i j e1 e2
    obtain rfl := Rv.int_of e1
    obtain rfl := Rv.int_of e2
    exact .inl h
  · rename_i ds es e1 e2
    refine .inr (.inl ?_)
    unfold kCat asL
    rw [e1, e2]
    exact h
  · rename_i ds es e1 e2
    obtain rfl := Rv.tup_of e1
    obtain rfl := Rv.tup_of e2
    exact .inr (.inr h)
  · exact h.elim
def dPlus := dBin kPlus
theorem me_plus {X : Cx} {W : WX} {a b : Expr} {da db : DE} {pos : Pos} (ha : ME X W a da) (hb : ME X W b db) : ME X W (.BinOp a .Add b pos) (dPlus da db) := me_bin (op_add.or (op_catR.or op_catA)) op2_plus ha hb
end DL
namespace DL
open PySem PySem.Spec PyProof.Rows L2
variable {K : PySem.W.Frag}
/-! ### an int in a tuple of ints -/
def kInT (neg : Bool) : Rv → Rv → (Rv → Prop) → (Str → Prop) → Prop := fun x y κ _ => asI x fun i => match y with
  | .v (.tup ds) => onS (intsD ds) fun ns => κ (.v (.bl (if neg = true then !decide (i ∈ ns) else decide (i ∈ ns))))
  | _ => False
theorem flat_ints : ∀ ns : List Int, (ns.map V.int).all flatV = true
  | [] => rfl
  | n :: ns => by rw [List.map_cons, List.all_cons, flat_ints ns]; rfl
theorem inV_ints (i : Int) : ∀ ns : List Int, inV (.int i) (ns.map V.int) = decide (i ∈ ns)
  | [] => rfl
  | n :: ns => by
    have ih := inV_ints i ns
    unfold inV at ih ⊢
    rw [List.map_cons, List.any_cons, ih]
    have : eqV (V.int n) (V.int i) = decide (i = n) := by
      show (n == i) = _
      by_cases h : i = n
      · subst h; simp
      · have : ¬ n = i := fun z => h z.symm
        simp [h, this]
    rw [this]
    by_cases h : i = n <;> simp [h]
theorem op2_inT {neg : Bool} : Op2 K (rIn K neg) (kInT neg) := by
  intro H0 G Hs H x y v u Q κ ε s s0 sh rx ry h q
  obtain ⟨i, rfl, h1⟩ := asI.of h
  split at h1
  · rename_i ds
    obtain ⟨ns, e, h2⟩ := onS.of h1
    obtain ⟨a, vs, rfl, b, c⟩ := rvT s ry
    rw [intsD_of e] at c
    rw [c.toInts] at b
    rw [rvI rx]
    refine ⟨a, _, rfl, .inr b, rfl, flat_ints ns, ?_⟩
    rw [inV_ints]
    exact q _ H G (.v (.bl _)) (Ext.refl s) toB h2
  · exact h1.elim
def dInT (neg : Bool) := dBin (kInT neg)
section
variable {X : Cx} {W : WX} {a b : Expr} {da db : DE} {pos : Pos}
theorem me_inT (ha : ME X W a da) (hb : ME X W b db) (hm : behindInMarks .In b = false := by rfl) : ME X W (.Compare a [.In] [b] pos) (dInT false da db) := me_cmp op_in_seq op2_inT ha hb hm
theorem me_notinT (ha : ME X W a da) (hb : ME X W b db) (hm : behindInMarks .NotIn b = false := by rfl) : ME X W (.Compare a [.NotIn] [b] pos) (dInT true da db) := me_cmp op_notIn_seq op2_inT ha hb hm
theorem mt_inT (ha : ME X W a da) (hb : ME X W b db) (hm : behindInMarks .In b = false := by rfl) : MT X W (.Compare a [.In] [b] pos) (tVal (dInT false da db)) := mt_cmp op_in_seq op2_inT ha hb hm
theorem mt_notinT (ha : ME X W a da) (hb : ME X W b db) (hm : behindInMarks .NotIn b = false := by rfl) : MT X W (.Compare a [.NotIn] [b] pos) (tVal (dInT true da db)) := mt_cmp op_notIn_seq op2_inT ha hb hm
end
/-! ### len(set(x)) of fewer than 64 points -/
def rLenT (K : PySem.W.Frag) (P : Program) (w : World) : List V → Hp → VK → Prop := fun vs H Q => ∃ (a : Addr) (L : List (Addr × List Int)), vs = [V.ref a] ∧ H a = some (SetTO P w a L) ∧ (∀ p ∈ L, SqT K H p.1 (p.2.map V.int)) ∧ ((L.map (·.2)).Nodup → Q (.int L.length) H)
theorem cr_lenT {X : Cx} : CallR X (.builtin "len") (rLenT X.K X.prog X.w) := by
  intro pins s σ H vs us Q I r h
  obtain ⟨a, L, rfl, ha, hk, q⟩ := h
  have R0 : SetT0 X.prog X.w s.heap a L := (I.hok a _ ha).1
  obtain ⟨es, ep, t, R⟩ := R0.full fun p hp => I.isT (hk p hp)
  rw [Vals.ref1 r]
  obtain ⟨o, ho, hex, hd⟩ := R.ob
  have hsz := R.size
  have hfew := R.few
  refine call_len_set ho hex hd R.fits (by omega) ⟨.int L.length, H, I.tok _, ⟨_, by rw [hsz]⟩, q R.nd⟩
def dLenSet (a : DE) : DE := fun ρ κ ε => a ρ (fun x => asL x fun ds => onS (ptsD ds) fun ps => ps.length < 64 ∧ ∀ L : List Pt, L.Nodup → (∀ p, p ∈ L ↔ p ∈ ps) → κ (.v (.int (L.length : Int)))) ε
section
variable {X : Cx} {W : WX} {e : Expr} {d : DE} {p p2 pos pos2 : Pos}
theorem me_lenSet {k : Nat} (C : Cn X W k) (hm : X.mg "len" = none) (hm2 : X.mg "set" = none) (h : ME X W e d) (hg : Gl X "len" := by rfl) (hg2 : Gl X "set" := by rfl)
    (he : starEach [e] X.env = (false, eval e X.env) :: starEach [] X.env := by rfl) (hpl : (backTo pos2 (starEach [] X.env)).any (·.1) = false := by rfl)
    (he2 : starEach [.Call (.Name "set" p2) [e] [] pos2] X.env = (false, eval (.Call (.Name "set" p2) [e] [] pos2) X.env) :: starEach [] X.env := by rfl) (hpl2 : (backTo pos (starEach [] X.env)).any (·.1) = false := by rfl) :
    ME X W (.Call (.Name "len" p) [.Call (.Name "set" p2) [e] [] pos2] [] pos) (dLenSet d) := by
  obtain ⟨t, pa, oa⟩ := h
  refine ⟨_, pe_callB cr_lenT hg hm PySem.boot_len (pa_cons (pe_callTy (cr_setOfT C.hc C.hr.units) hg2 hm2 (by decide +kernel) (pa_cons pa pa_nil he) (by decide) (by decide) he hpl) pa_nil he2) (by decide) (by decide) he2 hpl2, fun H0 G0 G ρ σ H Q κ ε R h hq hx => ?_⟩
  refine oa H0 G0 G ρ σ H _ _ ε R h (fun v H1 G1 r x1 h1 k1 => ?_) hx
  obtain ⟨ds, ed, k2⟩ := asL.of k1
  obtain ⟨ps, ep, hlt, k3⟩ := onS.of k2
  rw [ptsD_of ep] at ed
  have R1 := R.on x1
  obtain ⟨l, vs, rfl, b, c⟩ := h1.lst x1.s R1.ext.h ed
  obtain ⟨ks, rfl, g1, g2, g3, g4, g5⟩ := pts_keys x1.s c
  refine ⟨l, ks, rfl, b, g1, by omega, fun a L na hL hks => ?_⟩
  have x2 := Ext.newH (o := SetTO X.prog X.w a L) x1.s na
  refine ⟨a, L, rfl, upd_same, fun q hq => ?_, fun nd => ?_⟩
  · exact sqT_mono x2.h (g1 q (hL q hq))
  · have key : ∀ q ∈ L, q.2 = [(prI q).1, (prI q).2] := fun q hq => g5 q (hL q hq)
    have nd2 : (L.map prI).Nodup := by
      refine List.pairwise_map.mpr (List.Pairwise.imp_of_mem (fun {q r} hq hr hne e => hne ?_) (List.pairwise_map.mp nd))
      rw [key q hq, key r hr, e]
    have k4 := k3 (L.map prI) nd2 fun z => ⟨fun hz => ?_, fun hz => ?_⟩
    · rw [List.length_map] at k4
      exact hq _ _ G1 (.v (.int _)) (x1.trans x2) toI k4
    · obtain ⟨q, hq, rfl⟩ := List.mem_map.mp hz
      rw [← g2]
      exact List.mem_map.mpr ⟨q, hL q hq, rfl⟩
    · rw [← g2] at hz
      obtain ⟨q, hq, rfl⟩ := List.mem_map.mp hz
      obtain ⟨r, hr, er⟩ := List.mem_map.mp (hks q hq)
      refine List.mem_map.mpr ⟨r, hr, ?_⟩
      unfold prI
      rw [er]
end
end DL
namespace DL
open PySem PySem.Spec PyProof.Rows L2
/-! ### for over an own list that the loop only looks at -/
def sOwnL (k : Nat) (all : List Dat) (g : DG) (t : DT) (a : DS) (κ : DEnds) : List Dat → List Sl → Prop
  | [], ρ => κ.nx ρ
  | d :: ds, ρ => g (.v d) ρ fun ρ1 => ρ1[k]? = some (.ow all) ∧ t ρ1 (fun c => if c = true then a { κ with nx := fun _ => False, ct := fun _ => False, bk := fun _ => False } ρ1 else sOwnL k all g t a κ ds ρ1) (fun nm => κ.ex nm ρ1)
def sForOwn (k : Nat) (g : DG) (t : DT) (a : DS) : DS := fun κ ρ => match ρ[k]? with
  | some (.ow ds) => sOwnL k ds g t a κ ds ρ
  | _ => False
theorem ms_forOwn {X : Cx} {W : WX} {tg c : Expr} {xs : List Stmt} {g : DG} {t : DT} {a : DS} {pos p p2 : Pos} {x : Str} {kk : Nat} {is : List Nat} (C : Cn X W kk) (k : Nat) (hg : MG1 X tg is g) (hc : MT X W c t) (ha : MSs X W xs a) (hk : k ∉ is := by decide)
    (hN : X.N[k]? = some x := by rfl) (hv : Vis X.env.scope x := by first | exact Or.inl rfl | exact Or.inr (Or.inl rfl) | exact Or.inr (Or.inr rfl)) (hd : (x == ("__debug__" : Str)) = false := by decide)
    (hcd : (x == ("__classdict__" : Str)) = false := by decide) (hs : ∀ y, foldedSetIterable (.Name x p) X.env y = pure y := by intro _; rfl) : MS X W (.For tg (.Name x p) [.If c xs [] p2] [] pos) (sForOwn k g t a) := by
  obtain ⟨tg', pg, og⟩ := hg
  obtain ⟨tc, pc, oc⟩ := hc
  obtain ⟨ta, pa, oa⟩ := ha
  refine ⟨_, ps_for C.hp C.hc (pi_seq (pe_var hN hv hd hcd)) pg (pss_one (ps_if pc pa pss_nil)) hs, fun H0 G0 G ρ σ H D κ R h E => ?_⟩
  unfold sForOwn at h
  split at h
  · rename_i ds eo
    obtain ⟨l, vs, e1, e2, e3⟩ := ow_at R eo
    refine ⟨_, e1, l, rfl, .inl ⟨⟨vs, SqL.of e2⟩, ?_⟩⟩
    refine ⟨fun i m σ' H' => ∃ ρ' G', Rel X.K H0 G0 G' ρ' σ' H' ∧ ρ'[k]? = some (.ow ds) ∧ σ'[k]? = some (some (.ref l)) ∧ m = ds.length - i ∧ sOwnL k ds g t a κ (ds.drop i) ρ', ⟨ds.length, ρ, G, R, eo, e1, rfl, by simpa using h⟩, ?_⟩
    rintro i m σ' H' ⟨ρ', G', R', eo', es', rfl, hl⟩
    obtain ⟨l', vs', f1, f2, f3⟩ := ow_at R' eo'
    have : l' = l := by rw [es'] at f1; simpa using f1.symm
    subst this
    have hln := f3.len
    by_cases hlt : i < ds.length
    · have hlt2 : i < vs'.length := by omega
      refine .inr ⟨⟨vs', _, SqL.of f2, List.getElem?_eq_getElem hlt2⟩, fun σ2 H2 => ∃ ρ2 G2, Rel X.K H0 G0 G2 ρ2 σ2 H2 ∧ ρ2[k]? = some (.ow ds) ∧ σ2[k]? = some (some (.ref l')) ∧ sOwnL k ds g t a κ (ds.drop (i + 1)) ρ2, fun σ2 H2 ⟨ρ2, G2, R2, q1, q2, h2⟩ => ⟨ds.length - (i + 1), by omega, ρ2, G2, R2, q1, q2, rfl, h2⟩, fun x H2 hy => ?_⟩
      obtain ⟨rfl, q⟩ := hy
      have hx := q vs' (SqL.of f2)
      have hdd : ds[i]? = some ds[i] := List.getElem?_eq_getElem hlt
      obtain ⟨v, g1, g2⟩ := f3.get hdd
      rw [hx] at g1
      cases g1
      rw [List.drop_eq_getElem_cons hlt] at hl
      refine og H0 G0 G' G' ρ' σ' _ _ (.v ds[i]) x _ _ R' (Ext.refl R'.ext.s) g2 hl fun ρ3 σ3 R3 tch k3 => ?_
      obtain ⟨k4, k5⟩ := k3
      have es3 : σ3[k]? = some (some (.ref l')) := by rw [tch.2 k hk]; exact es'
      refine oc H0 G0 G' ρ3 σ3 _ _ _ _ R3 k5 (fun b H4 G4 x4 hb => ?_) (E.xok R3)
      have R4 := R3.on x4
      by_cases hbb : b = true
      · rw [if_pos hbb] at hb ⊢
        exact oa H0 G0 G4 ρ3 σ3 H4 _ _ R4 hb ⟨fun _ _ _ _ _ z => z.elim, fun _ _ _ _ _ z => z.elim, fun _ _ _ _ _ z => z.elim, E.rt, E.ex⟩
      · rw [if_neg hbb] at hb ⊢
        exact ⟨ρ3, G4, R4, k4, es3, hb⟩
    · refine .inl ⟨⟨vs', SqL.of f2, by omega⟩, ?_⟩
      rw [List.drop_eq_nil_of_le (by omega)] at hl
      exact E.nx ρ' σ' H' G' R' hl
  · exact h.elim
end DL
namespace DL
open PySem PySem.Spec PyProof.Rows L2
/-! ### a dict of written numbers, to be looked at -/
def dicI (kvs : List (Int × Int)) : Dat := .dic (mergeK [] (kvs.map fun kv => ((.inl kv.1 : Key), V.int kv.2)))
def trsI (kvs : List (Int × Int)) : List (TE × TE) := kvs.map fun kv => (tC (.int kv.1), tC (.int kv.2))
theorem pairs_I {σ : L2.St} {H : Hp} : ∀ (kvs : List (Int × Int)) (F : List (V × V) → Hp → Prop), F (kvs.map fun kv => (V.int kv.1, V.int kv.2)) H → tPairs (trsI kvs) σ H F
  | [], F, h => h
  | kv :: kvs, F, h => pairs_I kvs (fun ps H3 => F ((V.int kv.1, V.int kv.2) :: ps) H3) h
theorem me_dic {X : Cx} {W : WX} {pos : Pos} {keys : List (Option Expr)} {values : List Expr} (kvs : List (Int × Int)) (h : PPs X pos keys values (trsI kvs)) (hall : keys.all (·.isSome) = true := by rfl) (hl : keys.length = values.length := by rfl) (h0 : keys ≠ [] := by simp)
    (h15 : keys.length ≤ 15 := by decide) (hk : (kvs.map fun kv => ((.inl kv.1 : Key), V.int kv.2)).length ≤ 15 := by decide) : ME X W (.Dict keys values pos) (dC (dicI kvs)) := by
  refine ⟨_, pe_disp h hall hl h0 h15, fun H0 G0 G ρ σ H Q κ ε R hκ hq hx => ?_⟩
  intro p np
  refine pairs_I kvs _ ⟨upd_same, kvs.map fun kv => ((.inl kv.1 : Key), V.int kv.2), ?_, hk, ?_⟩
  · rw [List.map_map]; rfl
  · rw [upd_upd]
    refine hq _ _ _ (.v (dicI kvs)) (Ext.newG R.ext.s np) ?_ hκ
    show RdD X.K _ (dicI kvs) _
    unfold dicI RdD
    exact ⟨p, rfl, upd_same⟩
theorem me_dic0 {X : Cx} {W : WX} {pos : Pos} : ME X W (.Dict [] [] pos) (dC (dicI [])) := by
  refine ⟨_, pe_dnewK, fun H0 G0 G ρ σ H Q κ ε R hκ hq hx => ?_⟩
  intro p np
  refine hq _ _ _ (.v (dicI [])) (Ext.newG R.ext.s np) ?_ hκ
  show RdD X.K _ (dicI []) _
  unfold dicI RdD
  exact ⟨p, rfl, upd_same⟩
/-! ### the first place of a thing in a list -/
def dIndex (a b : DE) : DE := fun ρ κ ε => a ρ (fun x => b ρ (fun y => asL x fun ds => (shp 64 y.dat = true ∧ shp 64 (.lst ds) = true) ∧ ∃ j : Nat, (∃ z, ds[j]? = some z ∧ eqD z y.dat = true) ∧ (∀ (m : Nat) (z : Dat), m < j → ds[m]? = some z → eqD z y.dat = false) ∧ κ (.v (.int (j : Int)))) ε) ε
end DL
namespace DL
open PySem PySem.Spec PyProof.Rows L2
variable {K : PySem.W.Frag}

/-! ### sizes of numbers -/
/-- of less than k bits -/
@[irreducible] def Bt (k : Nat) (i : Int) : Prop := i.natAbs < 2 ^ k
theorem Bt.def {k : Nat} {i : Int} : Bt k i ↔ i.natAbs < 2 ^ k := by unfold Bt; exact Iff.rfl
theorem Bt.mono {k l : Nat} {i : Int} (h : Bt k i) (hl : k ≤ l) : Bt l i := by
  rw [Bt.def] at h ⊢
  exact Nat.lt_of_lt_of_le h (Nat.pow_le_pow_right (by decide) hl)
theorem Bt.add {k l : Nat} {i j : Int} (h : Bt k i) (h2 : Bt l j) : Bt (max k l + 1) (i + j) := by
  have a := h.mono (Nat.le_max_left k l)
  have b := h2.mono (Nat.le_max_right k l)
  rw [Bt.def] at a b ⊢
  have := Int.natAbs_add_le i j
  rw [Nat.pow_succ]
  omega
theorem Bt.neg {k : Nat} {i : Int} (h : Bt k i) : Bt k (-i) := by
  rw [Bt.def] at h ⊢; rw [Int.natAbs_neg]; exact h
theorem Bt.sub {k l : Nat} {i j : Int} (h : Bt k i) (h2 : Bt l j) : Bt (max k l + 1) (i - j) := by
  rw [Int.sub_eq_add_neg]; exact h.add h2.neg
theorem Bt.mul {k l : Nat} {i j : Int} (h : Bt k i) (h2 : Bt l j) : Bt (k + l) (i * j) := by
  rw [Bt.def] at h h2 ⊢
  rw [Int.natAbs_mul, Nat.pow_add]
  exact Nat.mul_lt_mul'' h h2
theorem Bt.of_lt {k : Nat} {i : Int} (h1 : -(2 ^ k : Nat) < i) (h2 : i < (2 ^ k : Nat)) : Bt k i := by
  rw [Bt.def]; omega
theorem Bt.lt {k : Nat} {i : Int} (h : Bt k i) : -((2 ^ k : Nat) : Int) < i ∧ i < ((2 ^ k : Nat) : Int) := by
  rw [Bt.def] at h; omega
theorem Bt.le_abs {k : Nat} {i j : Int} (h : Bt k j) (hi : i.natAbs ≤ j.natAbs) : Bt k i := by
  rw [Bt.def] at h ⊢; exact Nat.lt_of_le_of_lt hi h
theorem Bt.lit {k : Nat} {i : Int} (h : decide (i.natAbs < 2 ^ k) = true) : Bt k i := by
  rw [Bt.def]; exact of_decide_eq_true h
theorem Bt.emod {k : Nat} {i m : Int} (hm : decide (0 < m) = true) (h : decide (m.natAbs ≤ 2 ^ k) = true) : Bt k (i % m) := by
  have h1 : 0 < m := of_decide_eq_true hm
  have h2 : m.natAbs ≤ 2 ^ k := of_decide_eq_true h
  have a := Int.emod_nonneg i (Int.ne_of_gt h1)
  have b := Int.emod_lt_of_pos i h1
  rw [Bt.def]; omega
theorem Bt.emodm {k : Nat} {i m : Int} (hm : 0 < m) (h : Bt k m) : Bt k (i % m) := by
  have a := Int.emod_nonneg i (Int.ne_of_gt hm)
  have b := Int.emod_lt_of_pos i hm
  exact h.le_abs (by omega)
theorem Bt.ediv {k : Nat} {i m : Int} (h : Bt k i) : Bt k (i / m) := by
  refine h.le_abs ?_
  exact Int.natAbs_ediv_le_natAbs i m
theorem Bt.nat {k n : Nat} (h : n < 2 ^ k) : Bt k (n : Int) := by rw [Bt.def]; simpa using h
theorem Bt.log2 {k : Nat} {i : Int} (h : Bt k i) (hk : 0 < k) : i.natAbs.log2 < k := by
  rw [Bt.def] at h
  exact PySem.Flt.log2_lt_of hk h
theorem mulok {k l : Nat} {i j : Int} (h : Bt k i) (h2 : Bt l j) (hs : decide (0 < k ∧ 0 < l ∧ k + l ≤ 100000000) = true) : MulOk i j := by
  obtain ⟨a, b, c⟩ := of_decide_eq_true hs
  have x := h.log2 a
  have y := h2.log2 b
  unfold MulOk; omega
theorem divp {k : Nat} {i j : Int} (h0 : 0 < j) (h : Bt k j) (hs : decide (0 < k ∧ k ≤ 9000) = true) : DivP i j := by
  obtain ⟨a, b⟩ := of_decide_eq_true hs
  exact ⟨h0, Nat.lt_of_lt_of_le (h.log2 a) b⟩
theorem Bt.any {i : Int} : Bt (i.natAbs.log2 + 1) i := by
  rw [Bt.def]; exact Nat.lt_log2_self
theorem Bt.emod' {i m : Int} (hm : decide (0 < m) = true) : Bt (m.natAbs.log2 + 1) (i % m) := Bt.emodm (of_decide_eq_true hm) Bt.any
theorem Bt.ite {k l : Nat} {c : Prop} [Decidable c] {i j : Int} (h : Bt k i) (h2 : Bt l j) : Bt (max k l) (if c then i else j) := by
  split
  · exact h.mono (Nat.le_max_left _ _)
  · exact h2.mono (Nat.le_max_right _ _)
theorem Bt.le {k l : Nat} {i : Int} (h : Bt k i) (hs : decide (k ≤ l) = true) : Bt l i := h.mono (of_decide_eq_true hs)
theorem divp_lit {i j : Int} (h : decide (0 < j ∧ j.natAbs.log2 < 9000) = true) : DivP i j := by
  have := of_decide_eq_true h
  exact this
theorem modp_lit {i j : Int} (h : decide (0 < j) = true) : ModP i j := by
  have := of_decide_eq_true h
  exact this
theorem cpow_lit {i j : Int} (h : decide (0 ≤ j ∧ j ≤ 1000000 ∧ i.natAbs < 2 ^ 64) = true) : CPow i j := by
  have := of_decide_eq_true h
  exact this

theorem ifd {p : Prop} [Decidable p] {A B : Prop} (h1 : p → A) (h2 : ¬ p → B) : if decide p = true then A else B := by
  by_cases h : p
  · rw [if_pos (decide_eq_true h)]; exact h1 h
  · rw [if_neg (fun z => h (of_decide_eq_true z))]; exact h2 h
theorem ifT {c : Bool} {A B : Prop} (hc : c = true) (h : A) : if c = true then A else B := by rw [if_pos hc]; exact h
theorem ifF {c : Bool} {A B : Prop} (hc : c = false) (h : B) : if c = true then A else B := by rw [hc, if_neg Bool.false_ne_true]; exact h
theorem ifb {c : Bool} {A B : Prop} (h1 : c = true → A) (h2 : c = false → B) : if c = true then A else B := by
  cases c with
  | true => exact ifT rfl (h1 rfl)
  | false => exact ifF rfl (h2 rfl)
theorem ifEq {i j : Int} {A B : Prop} (h1 : i = j → A) (h2 : i ≠ j → B) : if eqD (.int i) (.int j) = true then A else B := by
  unfold eqD
  exact ifb (fun h => h1 (by simpa using h)) (fun h => h2 (by simpa using h))
theorem ifNe {i j : Int} {A B : Prop} (h1 : i ≠ j → A) (h2 : i = j → B) : if (!eqD (.int i) (.int j)) = true then A else B := by
  unfold eqD
  exact ifb (fun h => h1 (by simpa using h)) (fun h => h2 (by simpa using h))
theorem ifNot {c : Bool} {A B : Prop} (h1 : c = false → A) (h2 : c = true → B) : if (!c) = true then A else B := by
  cases c with
  | true => exact ifF rfl (h2 rfl)
  | false => exact ifT rfl (h1 rfl)
theorem eqD_int {i j : Int} : eqD (.int i) (.int j) = (i == j) := by unfold eqD; rfl
/-! ### points -/


structure BP (k : Nat) (p : Pt) : Prop where
  x : Bt k p.1
  y : Bt k p.2
theorem BP.mono {k l : Nat} {p : Pt} (h : BP k p) (hl : k ≤ l) : BP l p := ⟨h.x.mono hl, h.y.mono hl⟩
theorem pt_tup (p : Pt) : pt p = .tup [.int p.1, .int p.2] := rfl
theorem cutD_take (xs : List Dat) (n : Nat) : cutD xs none (some (n : Int)) = xs.take n := by
  unfold cutD
  rw [HT.sIx_none, HT.sIx_nat, List.drop_zero, Nat.sub_zero]
  rcases Nat.le_total n xs.length with h | h
  · rw [Nat.min_eq_left h]
  · rw [Nat.min_eq_right h, List.take_of_length_le (Nat.le_refl _), List.take_of_length_le h]
theorem modp_len {α : Type} {f : α → Dat} {xs : List α} {i : Int} (h : xs ≠ []) : ModP i ((xs.map f).length : Int) := by
  have hl : 0 < xs.length := List.length_pos_iff.mpr h
  rw [List.length_map]
  exact (by omega : 0 < (xs.length : Int))
/-- the script: so many numbers, each of so many bits -/
structure Scr (ns : List Int) : Prop where
  len : ns.length ≤ 63
  bt : ∀ z ∈ ns, Bt 1048577 z
/-- a place of a list of like things -/
theorem at_map {α : Type} {f : α → Dat} {xs : List α} {j : Nat} {x : α} (h : xs[j]? = some x) : atI (xs.map f) (j : Int) = some (f x) := atI_nat (by rw [List.getElem?_map, h]; rfl)
theorem at_mapI {α : Type} {f : α → Dat} {xs : List α} {i : Int} {j : Nat} {x : α} (hi : i = (j : Int)) (h : xs[j]? = some x) : atI (xs.map f) i = some (f x) := by rw [hi]; exact at_map h
theorem at_mod {α : Type} {f : α → Dat} {xs : List α} (i : Int) (h : xs ≠ []) : ∃ x ∈ xs, atI (xs.map f) (i % ((xs.map f).length : Int)) = some (f x) := by
  have hl : 0 < xs.length := List.length_pos_iff.mpr h
  rw [List.length_map]
  have h0 := Int.emod_nonneg i (show (xs.length : Int) ≠ 0 by omega)
  have h1 := Int.emod_lt_of_pos i (show 0 < (xs.length : Int) by omega)
  have hj : (i % (xs.length : Int)).toNat < xs.length := by omega
  exact ⟨xs[(i % (xs.length : Int)).toNat], List.getElem_mem hj, at_mapI (j := (i % (xs.length : Int)).toNat) (by omega) (List.getElem?_eq_getElem hj)⟩
end DL
namespace DL
open PySem PySem.Spec PyProof.Rows L2
variable {K : PySem.W.Frag}

/-! ### loops by an invariant over slots -/
theorem for_at {g : DG} {b : DS} {κ : DEnds} (ds : List Dat) (I : Nat → List Sl → Prop)
    (step : ∀ (i : Nat) (d : Dat) (ρ : List Sl) (N : List Sl → Prop), ds[i]? = some d → I i ρ → (∀ ρ', I (i + 1) ρ' → N ρ') → g (.v d) ρ (fun ρ1 => b { κ with nx := N, ct := N, bk := κ.nx } ρ1)) (fin : ∀ ρ, I ds.length ρ → κ.nx ρ) :
    ∀ (k i : Nat) (ρ : List Sl), i + k = ds.length → I i ρ → sForL g b κ (ds.drop i) ρ
  | 0, i, ρ, hk, h => by
    have e : i = ds.length := by omega
    rw [e, List.drop_length]
    rw [e] at h
    exact fin ρ h
  | k + 1, i, ρ, hk, h => by
    have hi : i < ds.length := by omega
    rw [List.drop_eq_getElem_cons hi]
    exact step i _ ρ _ (List.getElem?_eq_getElem hi) h fun ρ' h' => for_at ds I step fin k (i + 1) ρ' (by omega) h'
theorem for_ind {g : DG} {b : DS} {κ : DEnds} {ds : List Dat} (I : Nat → List Sl → Prop) {ρ : List Sl} (h0 : I 0 ρ)
    (step : ∀ (i : Nat) (d : Dat) (ρ : List Sl) (N : List Sl → Prop), ds[i]? = some d → I i ρ → (∀ ρ', I (i + 1) ρ' → N ρ') → g (.v d) ρ (fun ρ1 => b { κ with nx := N, ct := N, bk := κ.nx } ρ1)) (fin : ∀ ρ, I ds.length ρ → κ.nx ρ) : sForL g b κ ds ρ := by
  have := for_at ds I step fin ds.length 0 ρ (by omega) h0
  simpa using this
/-- over a typed list -/
theorem for_map {α : Type} {f : α → Dat} {g : DG} {b : DS} {κ : DEnds} {xs : List α} (I : Nat → List Sl → Prop) {ρ : List Sl} (h0 : I 0 ρ)
    (step : ∀ (i : Nat) (x : α) (ρ : List Sl) (N : List Sl → Prop), xs[i]? = some x → I i ρ → (∀ ρ', I (i + 1) ρ' → N ρ') → g (.v (f x)) ρ (fun ρ1 => b { κ with nx := N, ct := N, bk := κ.nx } ρ1)) (fin : ∀ ρ, I xs.length ρ → κ.nx ρ) : sForL g b κ (xs.map f) ρ := by
  refine for_ind I h0 (fun i d ρ N hd h hn => ?_) (by rw [List.length_map]; exact fin)
  rw [List.getElem?_map] at hd
  obtain ⟨x, hx, rfl⟩ := Option.map_eq_some_iff.mp hd
  exact step i x ρ N hx h hn
/-- over range(0, n): the turn's number -/
theorem for_rng {lo : Int} {g : DG} {b : DS} {κ : DEnds} {n : Nat} (I : Nat → List Sl → Prop) {ρ : List Sl} (h0 : I 0 ρ)
    (step : ∀ (i : Nat) (ρ : List Sl) (N : List Sl → Prop), i < n → I i ρ → (∀ ρ', I (i + 1) ρ' → N ρ') → g (.v (.int (lo + (i : Int)))) ρ (fun ρ1 => b { κ with nx := N, ct := N, bk := κ.nx } ρ1)) (fin : ∀ ρ, I n ρ → κ.nx ρ) : sForL g b κ (rngD lo n) ρ := by
  refine for_map (f := fun (i : Nat) => Dat.int (lo + (i : Int))) (xs := List.range n) I h0 (fun i x ρ N hx h hn => ?_) (by rw [List.length_range]; exact fin)
  have hi : i < n := by
    by_cases hi : i < n
    · exact hi
    · rw [List.getElem?_eq_none (by rw [List.length_range]; omega)] at hx; exact nomatch hx
  rw [List.getElem?_range hi] at hx
  cases hx
  exact step i ρ N hi h hn
theorem for_rngC {lo c : Int} {g : DG} {b : DS} {κ : DEnds} {n : Nat} (I : Nat → List Sl → Prop) {ρ : List Sl} (h0 : I 0 ρ)
    (step : ∀ (i : Nat) (ρ : List Sl) (N : List Sl → Prop), i < n → I i ρ → (∀ ρ', I (i + 1) ρ' → N ρ') → g (.v (.int (lo + (i : Int) * c))) ρ (fun ρ1 => b { κ with nx := N, ct := N, bk := κ.nx } ρ1)) (fin : ∀ ρ, I n ρ → κ.nx ρ) : sForL g b κ (rngDC lo c n) ρ := by
  refine for_map (f := fun (i : Nat) => Dat.int (lo + (i : Int) * c)) (xs := List.range n) I h0 (fun i x ρ N hx h hn => ?_) (by rw [List.length_range]; exact fin)
  have hi : i < n := by
    by_cases hi : i < n
    · exact hi
    · rw [List.getElem?_eq_none (by rw [List.length_range]; omega)] at hx; exact nomatch hx
  rw [List.getElem?_range hi] at hx
  cases hx
  exact step i ρ N hi h hn
theorem while_at {c : DT} {b : DS} {κ : DEnds} (I : Nat → List Sl → Prop)
    (step : ∀ (n : Nat) (ρ : List Sl) (N : List Sl → Prop), I n ρ → (∀ m ρ', m < n → I m ρ' → N ρ') → c ρ (fun k => if k = true then b { κ with nx := N, ct := N, bk := κ.nx } ρ else κ.nx ρ) (fun nm => κ.ex nm ρ)) :
    ∀ (k n : Nat) (ρ : List Sl), n < k → I n ρ → wIter c b κ k ρ
  | 0, n, ρ, hk, h => (Nat.not_lt_zero _ hk).elim
  | k + 1, n, ρ, hk, h => step n ρ _ h fun m ρ' hm h' => while_at I step k m ρ' (by omega) h'
theorem while_ind {c : DT} {b : DS} {κ : DEnds} (I : Nat → List Sl → Prop) (n : Nat) {ρ : List Sl} (h0 : I n ρ)
    (step : ∀ (n : Nat) (ρ : List Sl) (N : List Sl → Prop), I n ρ → (∀ m ρ', m < n → I m ρ' → N ρ') → c ρ (fun k => if k = true then b { κ with nx := N, ct := N, bk := κ.nx } ρ else κ.nx ρ) (fun nm => κ.ex nm ρ)) :
    ∃ k, wIter c b κ k ρ := ⟨n + 1, while_at I step (n + 1) n ρ (by omega) h0⟩

theorem kb {κ : Rv → Prop} {b : Bool} (h : b = true) (k : κ (.v (.bl true))) : κ (.v (.bl b)) := by rw [h]; exact k

/-! ### comprehensions -/
theorem lc_at {g : DG} {t : DT} {e : DE} {ρ : List Sl} {κ : Rv → Prop} (ds : List Dat) (I : Nat → List Dat → Prop)
    (step : ∀ (i : Nat) (d : Dat) (acc : List Dat) (N : List Dat → Prop), ds[i]? = some d → I i acc → (∀ acc', I (i + 1) acc' → N acc') →
      g (.v d) ρ (fun ρ1 => t ρ1 (fun b => if b = true then e ρ1 (fun r => match frz1 r with
        | some x => acc.length < sizeLine ∧ N (acc ++ [x])
        | none => False) (fun _ => False) else N acc) (fun _ => False))) (fin : ∀ acc, I ds.length acc → κ (.n acc)) :
    ∀ (k i : Nat) (acc : List Dat), i + k = ds.length → I i acc → lcL g t e ρ κ acc (ds.drop i)
  | 0, i, acc, hk, h => by
    have e : i = ds.length := by omega
    rw [e, List.drop_length]
    rw [e] at h
    exact fin acc h
  | k + 1, i, acc, hk, h => by
    have hi : i < ds.length := by omega
    rw [List.drop_eq_getElem_cons hi]
    exact step i _ acc _ (List.getElem?_eq_getElem hi) h fun acc' h' => lc_at ds I step fin k (i + 1) acc' (by omega) h'
theorem lc_ind {g : DG} {t : DT} {e : DE} {ρ : List Sl} {κ : Rv → Prop} {ds : List Dat} (I : Nat → List Dat → Prop) (h0 : I 0 [])
    (step : ∀ (i : Nat) (d : Dat) (acc : List Dat) (N : List Dat → Prop), ds[i]? = some d → I i acc → (∀ acc', I (i + 1) acc' → N acc') →
      g (.v d) ρ (fun ρ1 => t ρ1 (fun b => if b = true then e ρ1 (fun r => match frz1 r with
        | some x => acc.length < sizeLine ∧ N (acc ++ [x])
        | none => False) (fun _ => False) else N acc) (fun _ => False))) (fin : ∀ acc, I ds.length acc → κ (.n acc)) : lcL g t e ρ κ [] ds := by
  have := lc_at ds I step fin ds.length 0 [] (by omega) h0
  simpa using this
theorem sz_ok {n : Nat} (h : n < 100000) : n < sizeLine := Nat.lt_of_lt_of_le h (by decide)
/-- [e for x in xs], e told by a function -/
theorem lc_map {α : Type} {f h : α → Dat} {g : DG} {e : DE} {ρ : List Sl} {κ : Rv → Prop} {xs : List α} (hl : xs.length ≤ 100000)
    (step : ∀ (x : α) (N : Rv → Prop), x ∈ xs → N (.v (h x)) → g (.v (f x)) ρ (fun ρ1 => e ρ1 N (fun _ => False))) (k : κ (.n (xs.map h))) : lcL g tYesD e ρ κ [] (xs.map f) := by
  refine lc_ind (fun i acc => acc = (xs.take i).map h) rfl (fun i d acc N hd ha hn => ?_) (fun acc ha => ?_)
  · rw [List.getElem?_map] at hd
    obtain ⟨x, hx, rfl⟩ := Option.map_eq_some_iff.mp hd
    have hi : i < xs.length := by
      by_cases hi : i < xs.length
      · exact hi
      · rw [List.getElem?_eq_none (by omega)] at hx; exact nomatch hx
    have step' := step x (fun r => match frz1 r with
        | some x => acc.length < sizeLine ∧ N (acc ++ [x])
        | none => False) (List.mem_of_getElem? hx) ⟨?_, ?_⟩
    · exact step'
    · rw [ha, List.length_map, List.length_take]; exact sz_ok (by omega)
    · refine hn _ ?_
      rw [ha, List.take_add_one, hx, List.map_append]; rfl
  · rw [ha, List.length_map, List.take_of_length_le (Nat.le_refl _)]; exact k
/-- item by item -/
def All2 {α β : Type} (R : α → β → Prop) (xs : List α) (ys : List β) : Prop := ys.length = xs.length ∧ ∀ (i : Nat) (x : α) (y : β), xs[i]? = some x → ys[i]? = some y → R x y
theorem lc_rel {α β : Type} {f : α → Dat} {h : β → Dat} {g : DG} {e : DE} {ρ : List Sl} {κ : Rv → Prop} {xs : List α} (R : α → β → Prop) (hl : xs.length ≤ 100000)
    (step : ∀ (x : α) (N : Rv → Prop), x ∈ xs → (∀ y, R x y → N (.v (h y))) → g (.v (f x)) ρ (fun ρ1 => e ρ1 N (fun _ => False))) (k : ∀ ys, All2 R xs ys → κ (.n (ys.map h))) : lcL g tYesD e ρ κ [] (xs.map f) := by
  refine lc_ind (fun i acc => ∃ ys : List β, acc = ys.map h ∧ ys.length = min i xs.length ∧ ∀ (j : Nat) (x : α) (y : β), xs[j]? = some x → ys[j]? = some y → R x y) ⟨[], rfl, by simp, fun j x y _ h => by simp at h⟩ (fun i d acc N hd ha hn => ?_) (fun acc ha => ?_)
  · rw [List.getElem?_map] at hd
    obtain ⟨x, hx, rfl⟩ := Option.map_eq_some_iff.mp hd
    have hi : i < xs.length := by
      by_cases hi : i < xs.length
      · exact hi
      · rw [List.getElem?_eq_none (by omega)] at hx; exact nomatch hx
    obtain ⟨ys, rfl, hy, hr⟩ := ha
    have step' := step x (fun r => match frz1 r with
        | some x => (ys.map h).length < sizeLine ∧ N (ys.map h ++ [x])
        | none => False) (List.mem_of_getElem? hx) (fun y hxy => ⟨?_, ?_⟩)
    · exact step'
    · rw [List.length_map]; exact sz_ok (by omega)
    · refine hn _ ⟨ys ++ [y], by rw [List.map_append]; rfl, by rw [List.length_append, hy, List.length_singleton]; omega, fun j x' y' h1 h2 => ?_⟩
      by_cases hj : j < ys.length
      · rw [List.getElem?_append_left hj] at h2
        exact hr j x' y' h1 h2
      · have hj2 : j = ys.length := by
          by_cases hj3 : j = ys.length
          · exact hj3
          · rw [List.getElem?_eq_none (by rw [List.length_append, List.length_singleton]; omega)] at h2; exact nomatch h2
        have : j = i := by omega
        subst this
        rw [hj2, List.getElem?_append_right (Nat.le_refl _), Nat.sub_self] at h2
        rw [hx] at h1
        cases h1
        have : y = y' := by simpa using h2
        rw [← this]; exact hxy
  · obtain ⟨ys, rfl, hy, hr⟩ := ha
    rw [List.length_map] at hy
    exact k ys ⟨by omega, hr⟩

/-! ### the cells of a script -/
structure Cls (cs : List Int) : Prop where
  ne : cs ≠ []
  len : cs.length ≤ 60
  bt : ∀ z ∈ cs, Bt 1048577 z
theorem Cls.ix {cs : List Int} (h : Cls cs) (i : Int) {κ : Dat → Prop} (k : ∀ z, Bt 1048577 z → κ (.int z)) : onS (atI (cs.map Dat.int) (i % ((cs.map Dat.int).length : Int))) κ := by
  obtain ⟨z, hz, e⟩ := at_mod (f := Dat.int) i h.ne
  exact onS_some e (k z (h.bt z hz))
theorem Cls.one : Cls [0] := ⟨by simp, by simp, fun z hz => by rw [List.mem_singleton.mp hz]; exact (Bt.lit (k := 1) rfl).mono (by decide)⟩
theorem Cls.take {ns : List Int} (hs : Scr ns) (h : ns.take 60 ≠ []) : Cls (ns.take 60) := ⟨h, by rw [List.length_take]; omega, fun z hz => hs.bt z (List.mem_of_mem_take hz)⟩
theorem Cls.modp {cs : List Int} (h : Cls cs) {i : Int} : ModP i ((cs.map Dat.int).length : Int) := modp_len h.ne
theorem Cls.rng {cs : List Int} (h : Cls cs) : -(2 ^ 62) ≤ ((cs.map Dat.int).length : Int) ∧ ((cs.map Dat.int).length : Int) < 2 ^ 62 := by
  have := h.len
  rw [List.length_map]; omega
/-- cells = script[:60]; if len(cells) == 0: cells = [0] -/
theorem cells_go {T : DS} {κ : DEnds} {ns : List Int} {s1 : Sl} {ρ : List Sl} (hs : Scr ns) (h : ∀ cs, Cls cs → T κ (.br (ns.map Dat.int) :: .ow (cs.map Dat.int) :: ρ)) :
    sSeq (sAsg (dCut (dVar 0) (oNone) (oSome (dC (.int 60)))) (gN 1)) (sSeq (sIf (tVal (dEq (dB kLen (aCons (dVar 1) (aNil))) (dC (.int 0)))) (sAsg (dLst (aCons (dC (.int 0)) (aNil))) (gN 1)) (sNil)) T) κ (.br (ns.map Dat.int) :: s1 :: ρ) := by
  have e : cutD (ns.map Dat.int) none (some 60) = (ns.take 60).map Dat.int := by rw [List.map_take]; exact cutD_take _ 60
  show (sSeq (sIf (tVal (dEq (dB kLen (aCons (dVar 1) (aNil))) (dC (.int 0)))) (sAsg (dLst (aCons (dC (.int 0)) (aNil))) (gN 1)) (sNil)) T) κ (.br (ns.map Dat.int) :: .ow (cutD (ns.map Dat.int) none (some 60)) :: ρ)
  rw [e]
  refine ⟨⟨rfl, rfl⟩, ifEq (fun h0 => ?_) (fun h0 => ?_)⟩
  · exact ⟨rfl, h [0] Cls.one⟩
  · exact h _ (Cls.take hs fun z => h0 (by rw [z]; rfl))
/-- a number of so many bits of a number of so many -/
@[irreducible] def S_num (B k : Nat) : Fsp := fun ds κ _ => ∃ c : Int, ds = [.int c] ∧ Bt B c ∧ ∀ z, Bt k z → κ (.v (.int z))
theorem S_num_go {B k : Nat} {c : Int} {κ : Rv → Prop} {ε : Str → Prop} (h : Bt B c) (q : ∀ z, Bt k z → κ (.v (.int z))) : S_num B k [.int c] κ ε := by unfold S_num; exact ⟨c, rfl, h, q⟩
theorem S_num.out {B k : Nat} {ds : List Dat} {κ : Rv → Prop} {ε : Str → Prop} (h : S_num B k ds κ ε) : ∃ c : Int, ds = [.int c] ∧ Bt B c ∧ ∀ z, Bt k z → κ (.v (.int z)) := by unfold S_num at h; exact h
/-! ### sums over lists -/
def sm {α : Type} (f : α → Int) : List α → Int
  | [] => 0
  | x :: xs => f x + sm f xs
theorem sm_append {α : Type} (f : α → Int) : ∀ xs ys : List α, sm f (xs ++ ys) = sm f xs + sm f ys
  | [], ys => by simp [sm]
  | x :: xs, ys => by
    show f x + sm f (xs ++ ys) = f x + sm f xs + sm f ys
    rw [sm_append f xs ys]; omega
theorem sm_take {α : Type} (f : α → Int) {xs : List α} {i : Nat} {x : α} (h : xs[i]? = some x) : sm f (xs.take (i + 1)) = sm f (xs.take i) + f x := by
  rw [List.take_add_one, h, sm_append]
  show _ + (f x + 0) = _
  omega
theorem sm_rev {α : Type} (f : α → Int) : ∀ xs : List α, sm f xs.reverse = sm f xs
  | [] => rfl
  | x :: xs => by
    rw [List.reverse_cons, sm_append, sm_rev f xs]
    show _ + (f x + 0) = f x + _
    omega
theorem sm_all {α : Type} (f : α → Int) (xs : List α) : sm f (xs.take xs.length) = sm f xs := by rw [List.take_length]
/-! ### range(lo, hi, c) -/
theorem rng3_go {lo hi c : Int} {κ : List Dat → Prop} (h1 : -(2 ^ 61) ≤ lo) (h2 : lo < 2 ^ 61) (h3 : -(2 ^ 61) ≤ hi) (h4 : hi < 2 ^ 61) (hc : 0 < c) (hc2 : c < 1000000) (k : κ (rngDC lo c (rN lo hi c))) : ∃ n, RgC lo hi c n ∧ κ (rngDC lo c n) := ⟨_, rgC_up h1 h2 h3 h4 hc hc2, k⟩
theorem rN_lt {lo hi c : Int} (hc : 0 < c) {i : Nat} (h : i < rN lo hi c) : lo + (i : Int) * c < hi := by
  unfold rN at h
  split at h
  · rename_i hlt
    have h0 : 0 ≤ (hi - lo - 1) / c := Int.ediv_nonneg (by omega) (by omega)
    have h1 : (i : Int) ≤ (hi - lo - 1) / c := by omega
    have h2 := Int.mul_le_of_le_ediv hc h1
    omega
  · omega
theorem rN_le {lo hi c : Int} (hc : 0 < c) {n : Nat} (h : hi ≤ lo + (n : Int) * c) : rN lo hi c ≤ n := by
  rcases Nat.lt_or_ge n (rN lo hi c) with z | z
  · have := rN_lt hc z
    omega
  · exact z
theorem Scr.len' {ns : List Int} (h : Scr ns) : (ns.map Dat.int).length ≤ 63 := by rw [List.length_map]; exact h.len
/-- one more at the end -/
theorem map_snoc {α : Type} (f : α → Dat) (xs : List α) (x : α) : xs.map f ++ [f x] = (xs ++ [x]).map f := by rw [List.map_append]; rfl
theorem all_snoc {α : Type} {P : α → Prop} {xs : List α} {x : α} (h : ∀ y ∈ xs, P y) (hx : P x) : ∀ y ∈ xs ++ [x], P y := fun y hy => by
  rcases List.mem_append.mp hy with z | z
  · exact h y z
  · rw [List.mem_singleton.mp z]; exact hx
theorem szm {α : Type} {f : α → Dat} {xs : List α} (h : xs.length < 100000) : (xs.map f).length < sizeLine := by rw [List.length_map]; exact sz_ok h
/-! ### the same of a list that is equal to a typed one -/
theorem lc_map' {α : Type} {f h : α → Dat} {g : DG} {e : DE} {ρ : List Sl} {κ : Rv → Prop} {ds : List Dat} (xs : List α) (eq : ds = xs.map f) (hl : xs.length ≤ 100000)
    (step : ∀ (x : α) (N : Rv → Prop), x ∈ xs → N (.v (h x)) → g (.v (f x)) ρ (fun ρ1 => e ρ1 N (fun _ => False))) (k : κ (.n (xs.map h))) : lcL g tYesD e ρ κ [] ds := by
  rw [eq]; exact lc_map hl step k
theorem lc_rel' {α β : Type} {f : α → Dat} {h : β → Dat} {g : DG} {e : DE} {ρ : List Sl} {κ : Rv → Prop} {ds : List Dat} (xs : List α) (eq : ds = xs.map f) (R : α → β → Prop) (hl : xs.length ≤ 100000)
    (step : ∀ (x : α) (N : Rv → Prop), x ∈ xs → (∀ y, R x y → N (.v (h y))) → g (.v (f x)) ρ (fun ρ1 => e ρ1 N (fun _ => False))) (k : ∀ ys, All2 R xs ys → κ (.n (ys.map h))) : lcL g tYesD e ρ κ [] ds := by
  rw [eq]; exact lc_rel R hl step k
theorem for_map' {α : Type} {f : α → Dat} {g : DG} {b : DS} {κ : DEnds} {ds : List Dat} (xs : List α) (eq : ds = xs.map f) (I : Nat → List Sl → Prop) {ρ : List Sl} (h0 : I 0 ρ)
    (step : ∀ (i : Nat) (x : α) (ρ : List Sl) (N : List Sl → Prop), xs[i]? = some x → I i ρ → (∀ ρ', I (i + 1) ρ' → N ρ') → g (.v (f x)) ρ (fun ρ1 => b { κ with nx := N, ct := N, bk := κ.nx } ρ1)) (fin : ∀ ρ, I xs.length ρ → κ.nx ρ) : sForL g b κ ds ρ := by
  rw [eq]; exact for_map I h0 step fin
theorem cutD_nat (ds : List Dat) {i j : Nat} {a b : Int} (ea : a = (i : Int)) (eb : b = (j : Int)) (hij : i ≤ j) (hj : j ≤ ds.length) : cutD ds (some a) (some b) = (ds.drop i).take (j - i) := by
  subst ea eb
  unfold cutD
  rw [HT.sIx_nat, HT.sIx_nat, Nat.min_eq_left hj, Nat.min_eq_left (Nat.le_trans hij hj)]
theorem cutD_map {α : Type} (f : α → Dat) (xs : List α) {i j : Nat} {a b : Int} (ea : a = (i : Int)) (eb : b = (j : Int)) (hij : i ≤ j) (hj : j ≤ xs.length) : cutD (xs.map f) (some a) (some b) = ((xs.drop i).take (j - i)).map f := by
  rw [cutD_nat _ ea eb hij (by rw [List.length_map]; exact hj), List.map_take, List.map_drop]
theorem All2.mem {α β : Type} {R : α → β → Prop} {P : β → Prop} {xs : List α} {ys : List β} (h : All2 R xs ys) (hp : ∀ x ∈ xs, ∀ y, R x y → P y) : ∀ y ∈ ys, P y := fun y hy => by
  obtain ⟨i, hi⟩ := List.getElem?_of_mem hy
  have hl : i < xs.length := by
    have : i < ys.length := by
      by_cases z : i < ys.length
      · exact z
      · rw [List.getElem?_eq_none (by omega)] at hi; exact nomatch hi
    rw [← h.1]; exact this
  have hx : xs[i]? = some xs[i] := List.getElem?_eq_getElem hl
  exact hp _ (List.getElem_mem hl) y (h.2 i _ y hx hi)
end DL
/-! defs called with fewer arguments: the rest are written ints -/
namespace DL
open PySem PySem.Spec PyProof.Rows L2
variable {K : PySem.W.Frag}
theorem args_app {G H : Hp} : ∀ {m1 m2 : List Bool} {d1 d2 : List Dat} {v1 v2 : List V}, ArgsR K G H m1 d1 v1 → ArgsR K G H m2 d2 v2 → ArgsR K G H (m1 ++ m2) (d1 ++ d2) (v1 ++ v2)
  | [], _, _, _, _, _, h1, h2 => by obtain ⟨rfl, rfl⟩ := h1; exact h2
  | m :: m1, _, _, _, _, _, h1, h2 => by
    obtain ⟨d, e, v, w, rfl, rfl, a, b⟩ := h1
    exact ⟨d, _, v, _, rfl, rfl, a, args_app b h2⟩
theorem args_ints {G H : Hp} : ∀ {ms : List Bool} {is : List Int}, is.length = ms.length → ArgsR K G H ms (is.map Dat.int) (is.map V.int)
  | [], [], _ => ⟨rfl, rfl⟩
  | m :: ms, i :: is, h => by
    refine ⟨.int i, _, .int i, _, rfl, rfl, ?_, args_ints (by simpa using h)⟩
    have r : RdD K G (.int i) (.int i) := by unfold RdD; rfl
    cases m with
    | true => exact r
    | false => exact .inl r
  | [], _ :: _, h => nomatch h
  | _ :: _, [], h => nomatch h
theorem sp_runD {mg : MG} {W : WX} {H0 G H G1 H1 : Hp} {σ : L2.St} {ms : List Bool} {S : Fsp} {rs : List Rv} {vs : List V} {ds : List Dat} {is : List Int} {κ : Rv → Prop} {ε : Str → Prop} {Q : VK} (s0 : Same H0 H1) (x1 : Ext H G H1 G1) (h : RvsR K H0 G1 H H1 rs vs) (hl : (ms.drop rs.length).length = is.length) (e : conv (ms.take rs.length) rs = some ds) (k : S (ds ++ is.map Dat.int) κ ε)
    (hq : ∀ v H' G' r, Ext H G H' G' → RvR K H0 G' H H' r v → κ r → Q v H') (hx : XOk mg W H G σ ε) : spOf K mg ms S (vs ++ is.map V.int) H1 Q (WE W σ) := by
  obtain ⟨G2, x2, s2, r2⟩ := conv_ok s0 x1 (ms.take rs.length) rs vs ds h e
  have r3 := args_app r2 (args_ints (K := K) (G := G2) (H := H1) hl.symm)
  rw [List.take_append_drop] at r3
  refine ⟨G2, _, x2.s, r3, κ, ε, k, fun v H' G' r x hr ok kr => ?_, fun nm cls H' G' x h1 h2 => hx nm cls H' G' (x2.trans x) h1 h2⟩
  refine hq v H' G' r (x2.trans x) ?_ kr
  cases r with
  | v d => exact hr
  | n ds => obtain ⟨l, vs, a, b, c, n, g⟩ := hr; exact ⟨l, vs, a, b, c, x2.h.free n, g⟩
  | b ds => exact nomatch ok
  | o ds => exact nomatch ok
/-- a def with written ints as the last defaults -/
structure CalK (P : Program) (w : World) (K : PySem.W.Frag) (mg : MG) (base : Heap) (j : Nat) (x : Str) (ps : List Str) (ms : List Bool) (S : Fsp) (is : List Int) : Prop where
  ex : ∃ f fd ds, FnOk P w K mg base (L2.CX P w) j f fd ps (spOf K mg ms S) ∧ mg x = some (.ref f) ∧ PySem.W.keepIn K (.ref f) = true ∧ Binds K fd ps [] ∧ Vals (is.map V.int) ds ∧ Binds K fd ps ds
theorem CalK.cal {P : Program} {w : World} {mg : MG} {base : Heap} {j : Nat} {x : Str} {ps : List Str} {ms : List Bool} {S : Fsp} {is : List Int} (h : CalK P w K mg base j x ps ms S is) : Cal P w K mg base j x ps ms S := by
  obtain ⟨f, fd, ds, a, b, c, d, _⟩ := h
  exact ⟨f, fd, a, b, c, d⟩
def dCallD (ms : List Bool) (S : Fsp) (is : List Int) (a : DA) : DE := fun ρ κ ε => a ρ (fun rs => match conv (ms.take rs.length) rs with
  | some ds => (ms.drop rs.length).length = is.length ∧ S (ds ++ is.map Dat.int) κ ε
  | none => False) ε
section
variable {X : Cx} {W : WX} {e : Expr} {es : List Expr} {da : DA} {x : Str} {p pos : Pos} {ps : List Str} {ms : List Bool} {S : Fsp} {is : List Int} {k j : Nat}
theorem me_callD (C : Cn X W k) (F : CalK X.prog X.w X.K X.mg X.base j x ps ms S is) (ha : MA X W (e :: es) da) (hj : j ≤ k := by decide) (hg : Gl X x := by rfl)
    (hdb : (x == ("__debug__" : Str)) = false := by decide) (he : starEach (e :: es) X.env = (false, eval e X.env) :: starEach es X.env := by rfl) (hpl : (backTo pos (starEach es X.env)).any (·.1) = false := by rfl) :
    ME X W (.Call (.Name x p) (e :: es) [] pos) (dCallD ms S is da) := by
  obtain ⟨f, fd, dv, F, hm, hk, _, hv, hb⟩ := F
  obtain ⟨t, pa, oa⟩ := ha
  refine ⟨_, pe_callSD F (C.hr.mono hj) hg hm hk hb hv (fun σ => passAt C.tk σ) pa hdb he hpl, fun H0 G0 G ρ σ H Q κ ε R h hq hx => ?_⟩
  refine oa H0 G0 G ρ σ H _ _ ε R h (fun vs H1 G1 rs x1 hr k1 => ?_) hx
  split at k1
  · rename_i ds ed
    exact sp_runD (R.on x1).ext.h x1 hr k1.1 ed k1.2 hq hx
  · exact k1.elim
end
section
variable {P : Program} {w : World} {mg : MG} {base : Heap}
theorem fn_dlD {x qual : Str} {st : Stmt} {f : Addr} {fd : FuncData} {N ps : List Str} {k : Nat} {ms : List Bool} {S : Fsp} {δ : DS} {dvs : List V} {kws : List (Str × V)} (F : FunD K x qual (defArgs st) (defBody st) (defScope st) dvs kws f fd) (sc : FnScope N ps (defScope st)) (hms : ms.length = ps.length)
    (hb : ∀ (cdv : Value) (A : Around) (outer : List Env) (s : Shared) (H : Hp) (E : XK), Cn (cxOf (L2.CX P w) P w K mg base N qual (defScope st) f cdv A outer s H E) (WE0 E) k → MSs (cxOf (L2.CX P w) P w K mg base N qual (defScope st) f cdv A outer s H E) (WE0 E) (defBody st) δ)
    (sem : ∀ ds κ ε, S ds κ ε → δ (endsOf κ ε) (entry ms N.length ds)) : FnOk P w K mg base (L2.CX P w) (k + 1) f fd ps (spOf K mg ms S) := by
  refine F.ok sc (fun vs H Q E ⟨G, ds, _, h, _⟩ => by rw [args_len h, hms]) (fun cdv A outer s H vs Q E hr hsp => ?_)
  obtain ⟨G, ds, s1, h1, κ, ε, hS, hq, hx⟩ := hsp
  have C : Cn (cxOf (L2.CX P w) P w K mg base N qual (defScope st) f cdv A outer s H E) (WE0 E) k := ⟨takes_of rfl rfl rfl rfl, passes_of rfl, rfl, hr, sc.nd⟩
  obtain ⟨t, pt, ot⟩ := hb cdv A outer s H E C
  refine ⟨t, pt, ot H G G _ _ H _ (endsOf κ ε) (entry_rel s1 h1) (sem ds κ ε hS) ?_⟩
  refine ⟨fun ρ σ H' G' R k => ?_, fun _ _ _ _ _ k => k.elim, fun _ _ _ _ _ k => k.elim, fun v H' G' r x hr ok k => hq v H' G' r x hr ok k, fun nm cls ρ σ H' G' R h k => hx nm cls H' G' R.ext h k⟩
  exact hq _ H' G' (.v .non) R.ext (by show RdD K _ _ _; unfold RdD; rfl) rfl k
end
/-- a def with one written int as its default -/
theorem funD_mk {x qual : Str} {st : Stmt} {f T : Addr} {oc tc : Value} {od td an : Option Addr} {osl tsl : Array (Option Value)} {kV doc pm cdv ct : Value} {i : Int} {tk : Tok} {n : Nat}
    (l : K.lookup f = some ⟨oc, od, .func (PySem.W.fnOf x qual (defArgs st) (defBody st) (defScope st) (.ref T) kV doc pm an cdv ct), osl⟩) (t : K.lookup T = some ⟨tc, td, .seq #[.int i tk] n, tsl⟩)
    (c : PySem.W.codeIn K cdv qual = true) (k : PySem.W.keepIn K (.ref f) = true) : FunD K x qual (defArgs st) (defBody st) (defScope st) [.int i] [] f (PySem.W.fnOf x qual (defArgs st) (defBody st) (defScope st) (.ref T) kV doc pm an cdv ct) :=
  ⟨⟨oc, od, .ref T, kV, doc, pm, an, cdv, ct, osl, rfl, l, c, .inr ⟨by simp, T, _, [.int i tk], n, rfl, t, rfl, .cons ⟨tk, rfl⟩ .nil⟩, .inl rfl⟩, k⟩
end DL
/-! range(a, b) of any two numbers -/
namespace DL
open PySem PySem.Spec PyProof.Rows L2
variable {K : PySem.W.Frag}
theorem turn_longC {P : Program} {w : World} {K : PySem.W.Frag} {tg : Expr} (it : Addr) (lo c : Int) (n : Nat) : Turn P w K tg (Itc lo c n) [it] it (fun i h => IsLongIter h it (lo + (i : Nat) * c) ((n : Int) - (i : Nat)) c) where
  mem := by simp
  obj := fun i h st b hb => by
    have e : b = it := by simpa using hb
    subst e
    exact ⟨_, st, fun v z => nomatch z⟩
  keep := fun i h h' st k => k it (by simp) _ st
  item := by
    intro X hP hw hK hc i pins s σ H E I hf st hg
    subst hP hw hK
    obtain ⟨f0, f1, f2, f3, f4, f5⟩ := hf it (by simp)
    have W := Walks.longrange (prog := X.prog) (w := X.w) (I.ok.hd hc) it lo c n
    refine W.item i s _ _ hg st fun v h' tk hv st' kk => ?_
    obtain ⟨t, rfl⟩ := hv
    have I1 : Inv X pins σ H { s with heap := h', toks := tk } := I.turned (fun b o hb e => kk b o (by simpa using hb) e) f0 f1 f3 f4 f5
    exact ⟨_, rfl, go_of (s := { s with heap := h', toks := tk }) (n := "longrange_iterator") st' rfl rfl (by decide) ⟨.int (lo + (i : Nat) * c), H, I1, ⟨t, rfl⟩, ⟨rfl, rfl⟩, st', fun b hb => (hf b hb).1⟩⟩
  done := by
    intro X hP hw hK hc i pins s σ H E I hf st hg
    subst hP hw hK
    obtain ⟨f0, f1, f2, f3, f4, f5⟩ := hf it (by simp)
    exact wpAny_pyNext_long_end (I.ok.hd hc) st (by have : n ≤ i := hg; omega) fun h' eb => ⟨rfl, I.turned (t' := s.toks) (fun b o hb e => eb b o hb e) f0 f1 f3 f4 f5⟩
  self := fun A i s Q E st h => wpAny_pyIter_longiter st h
def tRngL2 (ta : TA) : TI := fun σ H R => ta σ H fun vs H1 => ∃ i j : Int, vs = [.int i, .int j] ∧ R (Itc i 1 (j - i).toNat) H1
section
variable {X : Cx} {tg : Expr}
theorem pi_rangeL2 {a b : Expr} {ta : TA} {p pos : Pos} (hg : Gl X "range") (hm : X.mg "range" = none) (ha : PA X [a, b] ta) (hs : starEach [a, b] X.env = [(false, eval a X.env), (false, eval b X.env)] := by rfl) (hs2 : starEach [b] X.env = [(false, eval b X.env)] := by rfl) :
    PI X tg (.Call (.Name "range" p) [a, b] [] pos) (tRngL2 ta) := by
  refine ⟨fun pins s σ H R I h => ?_⟩
  refine Call_ (ld_blt I hg hm boot_range (PyProof.Rows.callWith_type1 (thn (ha.run pos pins s σ H _ I h) fun us s1 ⟨vs, H1, I1, r1, q1⟩ => ?_) (by rw [hs, hs2]) (by rw [hs2]; rfl)))
  obtain ⟨i, j, e, q⟩ := q1
  subst e
  cases r1 with
  | cons r rr =>
    cases rr with
    | cons r' rr =>
      cases rr
      obtain ⟨t, rfl⟩ := r
      obtain ⟨t', rfl⟩ := r'
      refine call_range_2 ?_
      have e1 : i + ((0 : Nat) : Int) * 1 = i := by simp
      have e2 : (((j - i).toNat : Nat) : Int) - ((0 : Nat) : Int) = Builtin.Range.rangeSize i j 1 := by rw [rangeSize_one]; split <;> omega
      by_cases sm : Builtin.Range.small i j 1 = true
      · refine wpAny_pyIter_range (IsRange.new ..) sm ?_
        refine pi_one (tk := s1.toks + 1) (I1.kept (t' := s1.toks + 1) fun b o e => Heap.get?_push_of_some _ e) _ (turn_rangeC _ i 1 (j - i).toNat) ?_ q
        show IsRangeIter _ _ (i + ((0 : Nat) : Int) * 1) ((((j - i).toNat : Nat) : Int) - ((0 : Nat) : Int)) 1
        rw [e1, e2]
        exact Heap.get?_push_size _ rfl
      · refine wpAny_pyIter_longrange (IsRange.new ..) (by simpa using sm) ?_
        refine pi_one (tk := s1.toks + 1) (I1.kept (t' := s1.toks + 1) fun b o e => Heap.get?_push_of_some _ e) _ (turn_longC _ i 1 (j - i).toNat) ?_ q
        show IsLongIter _ _ (i + ((0 : Nat) : Int) * 1) ((((j - i).toNat : Nat) : Int) - ((0 : Nat) : Int)) 1
        rw [e1, e2]
        exact Heap.get?_push_size _ rfl
end
def iRngL2 (a b : DE) : DI := fun ρ κ ε => a ρ (fun x => b ρ (fun y => asI x fun i => asI y fun j => κ (rngD i (j - i).toNat)) ε) ε
theorem rngD_one (i : Int) (n : Nat) : ((List.range n).map fun (k : Nat) => Dat.int (i + (k : Int) * 1)) = rngD i n := by
  unfold rngD
  congr 1
  funext k
  rw [Int.mul_one]
section
variable {X : Cx} {W : WX} {tg a b : Expr} {da db : DE} {c : Bool}
theorem mi_rngL2 {p pos : Pos} (hm : X.mg "range" = none) (ha : ME X W a da) (hb : ME X W b db) (hg : Gl X "range" := by rfl) (hs : starEach [a, b] X.env = [(false, eval a X.env), (false, eval b X.env)] := by rfl) (hs2 : starEach [b] X.env = [(false, eval b X.env)] := by rfl) : MI X W c tg (.Call (.Name "range" p) [a, b] [] pos) (iRngL2 da db) := by
  obtain ⟨t, pa, oa⟩ := ha
  obtain ⟨u, pb, ob⟩ := hb
  refine ⟨_, pi_rangeL2 hg hm (pa_cons pa (pa_cons pb pa_nil hs2) (by rw [hs, hs2])) hs hs2, fun H0 G0 G ρ σ H R κ ε RR h hq hx => ?_⟩
  refine oa H0 G0 G ρ σ H _ _ ε RR h (fun v H1 G1 r x1 hr k => ?_) hx
  refine ob H0 G0 G1 ρ σ H1 _ _ ε (RR.on x1) k (fun w H2 G2 z x2 hz k2 => ?_) (hx.on x1)
  obtain ⟨i, rfl, k3⟩ := asI.of k2
  obtain ⟨j, rfl, k4⟩ := asI.of k3
  have hr : RdD X.K G1 (.int i) v := hr
  have hz : RdD X.K G2 (.int j) w := hz
  unfold RdD at hr hz
  subst hr hz
  rw [← rngD_one] at k4
  exact ⟨i, j, rfl, hq _ H2 G2 _ (x1.trans x2) itOk_rngC k4⟩
end
theorem cutD_any (ds : List Dat) (i j : Nat) : cutD ds (some (i : Int)) (some (j : Int)) = (ds.drop i).take (j - i) := by
  unfold cutD
  rw [HT.sIx_nat, HT.sIx_nat]
  rcases Nat.le_total ds.length i with h | h
  · rw [Nat.min_eq_right h, List.drop_eq_nil_of_le (Nat.le_refl _), List.drop_eq_nil_of_le h, List.take_nil, List.take_nil]
  · rw [Nat.min_eq_left h]
    rcases Nat.le_total j ds.length with h2 | h2
    · rw [Nat.min_eq_left h2]
    · rw [Nat.min_eq_right h2, List.take_of_length_le (by rw [List.length_drop]; omega), List.take_of_length_le (by rw [List.length_drop]; omega)]
end DL
namespace DL
open PySem PySem.Spec PyProof.Rows L2
variable {K : PySem.W.Frag}
/-- [e for x in xs], e a new list -/
theorem lc_relN {α β : Type} {f : α → Dat} {h : β → List Dat} {g : DG} {e : DE} {ρ : List Sl} {κ : Rv → Prop} {xs : List α} (R : α → β → Prop) (hl : xs.length ≤ 100000)
    (step : ∀ (x : α) (N : Rv → Prop), x ∈ xs → (∀ y, R x y → N (.n (h y))) → g (.v (f x)) ρ (fun ρ1 => e ρ1 N (fun _ => False))) (k : ∀ ys, All2 R xs ys → κ (.n (ys.map fun y => Dat.lst (h y)))) : lcL g tYesD e ρ κ [] (xs.map f) := by
  refine lc_ind (fun i acc => ∃ ys : List β, acc = ys.map (fun y => Dat.lst (h y)) ∧ ys.length = min i xs.length ∧ ∀ (j : Nat) (x : α) (y : β), xs[j]? = some x → ys[j]? = some y → R x y) ⟨[], rfl, by simp, fun j x y _ h => by simp at h⟩ (fun i d acc N hd ha hn => ?_) (fun acc ha => ?_)
  · rw [List.getElem?_map] at hd
    obtain ⟨x, hx, rfl⟩ := Option.map_eq_some_iff.mp hd
    have hi : i < xs.length := by
      by_cases hi : i < xs.length
      · exact hi
      · rw [List.getElem?_eq_none (by omega)] at hx; exact nomatch hx
    obtain ⟨ys, rfl, hy, hr⟩ := ha
    have step' := step x (fun r => match frz1 r with
        | some x => (ys.map (fun y => Dat.lst (h y))).length < sizeLine ∧ N (ys.map (fun y => Dat.lst (h y)) ++ [x])
        | none => False) (List.mem_of_getElem? hx) (fun y hxy => ⟨?_, ?_⟩)
    · exact step'
    · rw [List.length_map]; exact sz_ok (by omega)
    · refine hn _ ⟨ys ++ [y], by rw [List.map_append]; rfl, by rw [List.length_append, hy, List.length_singleton]; omega, fun j x' y' h1 h2 => ?_⟩
      by_cases hj : j < ys.length
      · rw [List.getElem?_append_left hj] at h2
        exact hr j x' y' h1 h2
      · have hj2 : j = ys.length := by
          by_cases hj3 : j = ys.length
          · exact hj3
          · rw [List.getElem?_eq_none (by rw [List.length_append, List.length_singleton]; omega)] at h2; exact nomatch h2
        have : j = i := by omega
        subst this
        rw [hj2, List.getElem?_append_right (Nat.le_refl _), Nat.sub_self] at h2
        rw [hx] at h1
        cases h1
        have : y = y' := by simpa using h2
        rw [← this]; exact hxy
  · obtain ⟨ys, rfl, hy, hr⟩ := ha
    rw [List.length_map] at hy
    exact k ys ⟨by omega, hr⟩
theorem lc_relN' {α β : Type} {f : α → Dat} {h : β → List Dat} {g : DG} {e : DE} {ρ : List Sl} {κ : Rv → Prop} {ds : List Dat} (xs : List α) (eq : ds = xs.map f) (R : α → β → Prop) (hl : xs.length ≤ 100000)
    (step : ∀ (x : α) (N : Rv → Prop), x ∈ xs → (∀ y, R x y → N (.n (h y))) → g (.v (f x)) ρ (fun ρ1 => e ρ1 N (fun _ => False))) (k : ∀ ys, All2 R xs ys → κ (.n (ys.map fun y => Dat.lst (h y)))) : lcL g tYesD e ρ κ [] ds := by
  rw [eq]; exact lc_relN R hl step k
end DL
/-! [x, y, ..][i]: one of new things, its own still -/
namespace DL
open PySem PySem.Spec PyProof.Rows L2
variable {K : PySem.W.Frag}
theorem RvsR.len {H0 G H H' : Hp} : ∀ {rs : List Rv} {vs : List V}, RvsR K H0 G H H' rs vs → rs.length = vs.length
  | [], vs, h => by
    have h : vs = [] := h
    rw [h]; rfl
  | r :: rs, vs, h => by
    obtain ⟨v, w, rfl, _, b⟩ := h
    rw [List.length_cons, List.length_cons, RvsR.len b]
theorem RvsR.get {H0 G H H' : Hp} : ∀ {rs : List Rv} {vs : List V} {i : Nat} {r : Rv}, RvsR K H0 G H H' rs vs → rs[i]? = some r → ∃ v, vs[i]? = some v ∧ RvR K H0 G H H' r v
  | [], _, _, _, _, e => by simp at e
  | r :: rs, vs, i, x, h, e => by
    obtain ⟨v, w, rfl, a, b⟩ := h
    cases i with
    | zero => simp at e; subst e; exact ⟨v, rfl, a⟩
    | succ i => simpa using RvsR.get b (by simpa using e)
theorem RvsR.at {H0 G H H' : Hp} {rs : List Rv} {vs : List V} {i : Int} {r : Rv} (h : RvsR K H0 G H H' rs vs) (e : atI rs i = some r) : ∃ v, atI vs i = some v ∧ RvR K H0 G H H' r v := by
  unfold atI at e ⊢
  rw [← h.len]
  cases q : ixN rs.length i with
  | none => rw [q] at e; exact nomatch e
  | some j =>
    rw [q] at e
    exact h.get e
def dPick (a : DA) (b : DE) : DE := fun ρ κ ε => a ρ (fun rs => Nat.ble rs.length 100000 = true ∧ b ρ (fun y => asI y fun i => onS (atI rs i) κ) ε) ε
section
variable {X : Cx} {W : WX} {es : List Expr} {b : Expr} {da : DA} {db : DE} {pos p2 : Pos}
theorem me_pick (ha : MA X W es da) (hb : ME X W b db) (hs : PlainIx b := by exact fun _ _ => rfl) : ME X W (.Subscript (.List es p2) b pos) (dPick da db) := by
  obtain ⟨ta, pa, oa⟩ := ha
  obtain ⟨tb, pb, ob⟩ := hb
  refine ⟨_, pe_ix ix_list (pe_lst pa) pb hs, fun H0 G0 G ρ σ H Q κ ε R h hq hx => ?_⟩
  refine oa H0 G0 G ρ σ H _ _ ε R h (fun vs H1 G1 rs e1 r1 h1 => ?_) hx
  obtain ⟨hz, h1⟩ := h1
  refine ⟨by rw [← r1.len]; exact small_of hz, fun p np => ?_⟩
  have y := Ext.newH (o := HO.lst vs) e1.s np
  have e2 := e1.trans y
  refine ob H0 G0 G1 ρ σ _ _ _ ε (R.on e2) h1 (fun u H2 G2 z e3 r3 h3 => ?_) (hx.on e2)
  obtain ⟨i, rfl, h4⟩ := asI.of h3
  have r3 : RdD X.K G2 (.int i) u := r3
  unfold RdD at r3
  obtain ⟨r, er, h5⟩ := onS.of h4
  obtain ⟨v, ev, rv⟩ := r1.at er
  exact ⟨p, vs, i, v, rfl, r3, sq_of (e3.h _ _ upd_same), ev, hq v H2 G2 r (e2.trans e3) ((rv.on y).on e3) h5⟩
end
end DL
/-! x[i:j:k] of a list -/
namespace DL
open PySem PySem.Spec PyProof.Rows L2
variable {K : PySem.W.Frag}
def pickN (n : Nat) (lo hi st : Option Int) : List Nat := sliceRange (sliceBounds lo hi st n).1 (sliceBounds lo hi st n).2.1 (sliceBounds lo hi st n).2.2
def pickL {α : Type} (xs : List α) (lo hi st : Option Int) : List α := (pickN xs.length lo hi st).filterMap (xs[·]?)
theorem pick_map {α β : Type} (f : α → β) (xs : List α) (lo hi st : Option Int) : pickL (xs.map f) lo hi st = (pickL xs lo hi st).map f := by
  unfold pickL
  rw [List.length_map, List.map_filterMap]
  congr 1
  funext j
  rw [List.getElem?_map]
theorem pick_mem {α : Type} {xs : List α} {lo hi st : Option Int} {x : α} (h : x ∈ pickL xs lo hi st) : x ∈ xs := by
  unfold pickL at h
  obtain ⟨j, _, e⟩ := List.mem_filterMap.mp h
  exact List.mem_of_getElem? e
theorem pick_len {α : Type} (xs : List α) (lo hi st : Option Int) : (pickL xs lo hi st).length ≤ (pickN xs.length lo hi st).length := List.length_filterMap_le _ _
theorem vals_pick {xs : List V} {us : List Value} (r : Vals xs us) : ∀ js : List Nat, Vals (js.filterMap (xs[·]?)) (js.filterMap (us[·]?))
  | [] => .nil
  | j :: js => by
    have ih := vals_pick r js
    have l := r.length
    rw [List.filterMap_cons, List.filterMap_cons]
    cases e : xs[j]? with
    | none =>
      have : us[j]? = none := List.getElem?_eq_none (by rw [← l]; exact List.getElem?_eq_none_iff.mp e)
      rw [this]; exact ih
    | some x =>
      obtain ⟨u, eu, ru⟩ := r.get e
      rw [eu]; exact .cons ru ih
theorem rdl_pick {G : Hp} {ds : List Dat} {vs : List V} (r : RdL K G ds vs) : ∀ js : List Nat, RdL K G (js.filterMap (ds[·]?)) (js.filterMap (vs[·]?))
  | [] => RdL.nil
  | j :: js => by
    have ih := rdl_pick r js
    have l := r.len
    rw [List.filterMap_cons, List.filterMap_cons]
    cases e : ds[j]? with
    | none =>
      have : vs[j]? = none := List.getElem?_eq_none (by rw [← l]; exact List.getElem?_eq_none_iff.mp e)
      rw [this]; exact ih
    | some x =>
      obtain ⟨u, eu, ru⟩ := r.get e
      rw [eu]; exact RdL.cons ru ih
/-- a[lo:hi:st] of a list -/
def dCutS (a : DE) (l h t : DO) : DE := fun ρ κ ε => a ρ (fun x => l ρ (fun lo => h ρ (fun hi => t ρ (fun st => asL x fun ds => st ≠ some 0 ∧ κ (.n (pickL ds lo hi st))) ε) ε) ε) ε
def tSlS (K : PySem.W.Frag) (te : TE) (tl th ts : TO) : TE := fun σ H Q => te σ H fun x H1 => tl σ H1 fun l H2 => th σ H2 fun u H3 => ts σ H3 fun t H4 => ∃ a xs, x = .ref a ∧ SqL K H4 a xs ∧ t ≠ some 0 ∧ ∀ p, H4 p = none → Q (.ref p) (upd H4 p (.lst (pickL xs l u t)))
section
variable {X : Cx} {W : WX} {e st : Expr} {lo hi : Option Expr} {te : TE} {tl th ts : TO} {pos p2 : Pos} {da : DE} {dl dh dt : DO}
theorem pe_sliceS (he : PE X e te) (hl : PO X lo tl) (hu : PO X hi th) (ht : PO X (some st) ts) : PE X (.Subscript e (.Slice lo hi (some st) p2) pos) (tSlS X.K te tl th ts) := by
  refine ⟨fun pins s σ H Q I h => ?_⟩
  refine Subscript_ (thn (he.run pins s σ H _ I h) fun v s1 ⟨x, H1, I1, r1, q1⟩ => ?_)
  refine wpAny_Slice (thn (hl.run pins s1 σ H1 _ I1 q1) fun vl s2 ⟨l, H2, I2, pl, q2⟩ => thn (hu.run pins s2 σ H2 _ I2 q2) fun vu s3 ⟨u, H3, I3, pu, q3⟩ => thn (ht.run pins s3 σ H3 _ I3 q3) fun vs s4 ⟨t, H4, I4, ps, a, xs, ex, hx, h0, q⟩ => ?_)
  subst ex
  obtain rfl : v = Value.ref a := r1
  have J := I4.kept (h' := s4.heap.push { cls := .type "slice", data := .fields #[vl, vu, vs] }) (t' := s4.toks) fun b ob z => Heap.get?_push_of_some _ z
  obtain ⟨its, r, hL, hz⟩ := J.list hx
  have len := r.length
  show wpAny (model X.prog X.w) X.A (subscriptTail e (.Slice lo hi (some st) p2) (.ref a) (.ref s4.heap.objs.size)) (EP X pins σ Q) X.xe { s4 with heap := s4.heap.push { cls := .type "slice", data := .fields #[vl, vu, vs] } }
  refine tail_any (ops := [.ref a, .ref s4.heap.objs.size]) hL.isList.typeIs (PySem.slot_list_getitem.lookup) ?_ (by with_unfolding_all rfl)
  refine wpAny_getItem_list_slice hL.isList (Heap.IsSliceOf.new _ vl vu vs) pl pu ps h0 ?_ (by rw [List.size_toArray]; omega)
  have e1 : slicePick its.toArray l u t = (pickL its l u t).toArray := by
    unfold slicePick pickL pickN
    rw [List.size_toArray]
    congr 2
    funext j
    rw [List.getElem?_toArray]
  rw [e1]
  have rv : Vals (pickL xs l u t) (pickL its l u t) := by
    unfold pickL
    rw [len]
    exact vals_pick r _
  have lz : (pickL xs l u t).length ≤ sizeLine := by
    rw [rv.length]
    have := slicePick_size_le its.toArray l u t
    rw [e1, List.size_toArray, List.size_toArray] at this
    omega
  exact ⟨.ref _, _, J.laid (t' := s4.toks) (o := .lst (pickL xs l u t)) (fun b ob z => Heap.get?_push_of_some _ z) (Nat.le_refl _) ⟨lz, _, 0, rv, Heap.get?_push_size _ rfl⟩, rfl, q _ (J.hok.fresh (Nat.le_refl _))⟩
theorem me_cutS (ha : ME X W e da) (hl : MO X W lo dl) (hh : MO X W hi dh) (ht : MO X W (some st) dt) : ME X W (.Subscript e (.Slice lo hi (some st) p2) pos) (dCutS da dl dh dt) := by
  obtain ⟨ta, pa, oa⟩ := ha
  obtain ⟨tl, pl, ol⟩ := hl
  obtain ⟨th, ph, oh⟩ := hh
  obtain ⟨tt, pt', ot⟩ := ht
  refine ⟨_, pe_sliceS pa pl ph pt', fun H0 G0 G ρ σ H Q κ ε R h hq hx => ?_⟩
  refine oa H0 G0 G ρ σ H _ _ ε R h (fun v H1 G1 x e1 r1 h1 => ?_) hx
  refine ol H0 G0 G1 ρ σ H1 _ _ ε (R.on e1) h1 (fun lo H2 G2 e2 h2 => ?_) (hx.on e1)
  refine oh H0 G0 G2 ρ σ H2 _ _ ε ((R.on e1).on e2) h2 (fun hi H3 G3 e3 h3 => ?_) ((hx.on e1).on e2)
  refine ot H0 G0 G3 ρ σ H3 _ _ ε (((R.on e1).on e2).on e3) h3 (fun st H4 G4 e4 h4 => ?_) (((hx.on e1).on e2).on e3)
  obtain ⟨ds, ed, h0, k⟩ := asL.of h4
  have e5 := ((e1.trans e2).trans e3).trans e4
  have R5 := R.on e5
  obtain ⟨l, vs, rfl, b, c⟩ := (((r1.on e2).on e3).on e4).lst e5.s R5.ext.h ed
  refine ⟨l, vs, rfl, b, h0, fun p np => ?_⟩
  have y := Ext.newH (o := HO.lst (pickL vs lo hi st)) e5.s np
  have cc : RdL X.K G4 (pickL ds lo hi st) (pickL vs lo hi st) := by
    unfold pickL
    rw [c.len]
    exact rdl_pick c _
  exact hq _ _ _ (.n (pickL ds lo hi st)) (e5.trans y) ⟨p, _, rfl, upd_same, cc, e5.h.free np, e5.s.free np⟩ k
end
end DL
/-! what divides two numbers -/
namespace Num
theorem gcd_fmod (a b : Int) : Int.gcd b (a.fmod b) = Int.gcd a b := by
  have e := Int.mul_fdiv_add_fmod a b
  refine Nat.dvd_antisymm ?_ ?_
  · refine Nat.dvd_gcd ?_ ?_
    · have h : ((Int.gcd b (a.fmod b) : Nat) : Int) ∣ b * a.fdiv b + a.fmod b := Int.dvd_add (Int.dvd_mul_of_dvd_left (Int.gcd_dvd_left _ _)) (Int.gcd_dvd_right _ _)
      rw [e] at h
      exact Int.ofNat_dvd_left.mp h
    · exact Int.ofNat_dvd_left.mp (Int.gcd_dvd_left _ _)
  · refine Nat.dvd_gcd ?_ ?_
    · exact Int.ofNat_dvd_left.mp (Int.gcd_dvd_right _ _)
    · refine Int.ofNat_dvd_left.mp ?_
      have : a.fmod b = a - b * a.fdiv b := by omega
      rw [this]
      exact Int.dvd_sub (Int.gcd_dvd_left _ _) (Int.dvd_mul_of_dvd_left (Int.gcd_dvd_right _ _))
theorem fmod_lt (a : Int) {b : Int} (h : b ≠ 0) : (a.fmod b).natAbs < b.natAbs := by
  rcases Int.lt_or_le 0 b with z | z
  · have h1 := Int.fmod_nonneg_of_pos a z
    have h2 := Int.fmod_lt_of_pos a z
    omega
  · have h1 := Int.fmod_nonneg_of_pos (-a) (show 0 < -b by omega)
    have h2 := Int.fmod_lt_of_pos (-a) (show 0 < -b by omega)
    have e1 := Int.mul_fdiv_add_fmod a b
    have e2 := Int.mul_fdiv_add_fmod (-a) (-b)
    rw [Int.neg_fdiv_neg, Int.neg_mul] at e2
    omega
theorem bez : ∀ (n : Nat) (a b : Int), b.natAbs < n → ∃ s t : Int, s * a + t * b = ((Int.gcd a b : Nat) : Int)
  | 0, a, b, h => (Nat.not_lt_zero _ h).elim
  | n + 1, a, b, h => by
    by_cases hb : b = 0
    · subst hb
      rw [Int.gcd_zero_right]
      rcases Int.le_total 0 a with z | z
      · exact ⟨1, 0, by omega⟩
      · exact ⟨-1, 0, by omega⟩
    · obtain ⟨s, t, e⟩ := bez n b (a.fmod b) (by have := fmod_lt a hb; omega)
      rw [gcd_fmod] at e
      refine ⟨t, s - t * a.fdiv b, ?_⟩
      have e2 := Int.mul_fdiv_add_fmod a b
      have : a.fmod b = a - b * a.fdiv b := by omega
      rw [this] at e
      rw [← e]; grind
theorem bezout (a b : Int) : ∃ s t : Int, s * a + t * b = ((Int.gcd a b : Nat) : Int) := bez (b.natAbs + 1) a b (by omega)
theorem gcd_pos (a : Int) {m : Int} (hm : m ≠ 0) : 0 < ((Int.gcd a m : Nat) : Int) := by
  have := Int.gcd_pos_of_ne_zero_right a hm
  omega
theorem gcd_ok (a : Int) {m : Int} (hm : 0 < m) : ∃ s t : Int, s * a + t * m = ((Int.gcd a m : Nat) : Int) ∧ 0 < ((Int.gcd a m : Nat) : Int) ∧ ((Int.gcd a m : Nat) : Int) ∣ a ∧ ((Int.gcd a m : Nat) : Int) ∣ m := by
  obtain ⟨s, t, e⟩ := bezout a m
  exact ⟨s, t, e, gcd_pos a (by omega), Int.gcd_dvd_left _ _, Int.gcd_dvd_right _ _⟩
open DL
structure Shares (a b g s t : Int) : Prop where
  g0 : 0 ≤ g
  e : s * a + t * b = g
  ga : g ∣ a
  gb : g ∣ b
  z : b = 0 → t = 0 ∧ s = (if a < 0 then -1 else if 0 < a then 1 else 0)
  nz : b ≠ 0 → 0 < g ∧ 0 ≤ s ∧ s < (b.natAbs : Int) / g
theorem abs_mul {x y : Int} : (x * y).natAbs = x.natAbs * y.natAbs := Int.natAbs_mul x y
theorem Shares.bt {a b g s t : Int} {k : Nat} (h : Shares a b g s t) (ha : Bt k a) (hb : Bt k b) (hk : 0 < k) : Bt k g ∧ Bt k s ∧ Bt (k + 1) t := by
  by_cases hz : b = 0
  · obtain ⟨h1, h2⟩ := h.z hz
    have hs : s.natAbs ≤ 1 := by rw [h2]; split <;> (try split) <;> decide
    have hg : g = s * a := by rw [← h.e, h1, hz]; simp
    refine ⟨ha.le_abs ?_, ?_, ?_⟩
    · rw [hg, abs_mul]
      have := Nat.mul_le_mul_right a.natAbs hs
      omega
    · rw [Bt.def]
      have : 2 ^ 1 ≤ 2 ^ k := Nat.pow_le_pow_right (by decide) hk
      omega
    · rw [h1, Bt.def]; exact Nat.pow_pos (by decide)
  · obtain ⟨g1, s0, s1⟩ := h.nz hz
    have hgb : g.natAbs ≤ b.natAbs := Nat.le_of_dvd (by omega) (Int.natAbs_dvd_natAbs.mpr h.gb)
    have hs : s.natAbs ≤ b.natAbs := by
      have : (b.natAbs : Int) / g ≤ b.natAbs := Int.ediv_le_self _ (by omega)
      omega
    refine ⟨hb.le_abs hgb, hb.le_abs hs, ?_⟩
    have e : t * b = g - s * a := by have := h.e; omega
    have e2 : t.natAbs * b.natAbs ≤ b.natAbs * (1 + a.natAbs) := by
      rw [← abs_mul, e]
      have h1 := Int.natAbs_sub_le g (s * a)
      rw [abs_mul] at h1
      have h2 := Nat.mul_le_mul_right a.natAbs hs
      rw [Nat.mul_add, Nat.mul_one]
      omega
    have e3 : t.natAbs ≤ 1 + a.natAbs := by
      rw [Nat.mul_comm] at e2
      exact Nat.le_of_mul_le_mul_left e2 (by omega)
    rw [Bt.def] at ha ⊢
    rw [Nat.pow_succ]
    have : 0 < 2 ^ k := Nat.pow_pos (by decide)
    omega
theorem Shares.uniq {a b g s t g' s' t' : Int} (h : Shares a b g s t) (h' : Shares a b g' s' t') : g = g' ∧ s = s' ∧ t = t' := by
  have e := h.e
  have e' := h'.e
  have g1 : g ∣ g' := by rw [← e']; exact Int.dvd_add (Int.dvd_mul_of_dvd_right h.ga) (Int.dvd_mul_of_dvd_right h.gb)
  have g2 : g' ∣ g := by rw [← e]; exact Int.dvd_add (Int.dvd_mul_of_dvd_right h'.ga) (Int.dvd_mul_of_dvd_right h'.gb)
  have gg : g = g' := Int.dvd_antisymm h.g0 h'.g0 g1 g2
  subst gg
  by_cases hb : b = 0
  · obtain ⟨z1, z2⟩ := h.z hb
    obtain ⟨z3, z4⟩ := h'.z hb
    exact ⟨rfl, by rw [z2, z4], by rw [z1, z3]⟩
  · obtain ⟨g0, s0, s1⟩ := h.nz hb
    obtain ⟨_, s0', s1'⟩ := h'.nz hb
    obtain ⟨A, eA⟩ := h.ga
    obtain ⟨B, eB⟩ := h.gb
    have eB' : (b.natAbs : Int) / g = B.natAbs := by
      have : (b.natAbs : Int) = g * (B.natAbs : Int) := by rw [eB, Int.natAbs_mul, Int.natCast_mul]; congr 1; omega
      rw [this, Int.mul_ediv_cancel_left _ (Int.ne_of_gt g0)]
    have one : s * A + t * B = 1 := by
      have : g * (s * A + t * B) = g * 1 := by rw [Int.mul_one]; conv => rhs; rw [← e, eA, eB]
                                               grind
      exact Int.eq_of_mul_eq_mul_left (Int.ne_of_gt g0) this
    have zero : (s - s') * A + (t - t') * B = 0 := by
      have : g * ((s - s') * A + (t - t') * B) = g * 0 := by
        have e1 : s * (g * A) + t * (g * B) = s' * (g * A) + t' * (g * B) := by rw [← eA, ← eB, e, e']
        grind
      exact Int.eq_of_mul_eq_mul_left (Int.ne_of_gt g0) this
    have dv : B ∣ s - s' := ⟨(s - s') * t - s * (t - t'), by grind⟩
    have hs : s = s' := by
      have d2 : B.natAbs ∣ (s - s').natAbs := Int.natAbs_dvd_natAbs.mpr dv
      rw [eB'] at s1 s1'
      have : (s - s').natAbs = 0 := Nat.eq_zero_of_dvd_of_lt d2 (by omega)
      omega
    refine ⟨rfl, hs, ?_⟩
    have : t * b = t' * b := by rw [hs] at e; omega
    exact Int.eq_of_mul_eq_mul_right hb this
theorem shares_ex (a b : Int) : ∃ p : Int × Int × Int, Shares a b p.1 p.2.1 p.2.2 := by
  obtain ⟨s0, t0, e⟩ := bezout a b
  by_cases hb : b = 0
  · subst hb
    rw [Int.gcd_zero_right] at e
    rcases Int.lt_trichotomy a 0 with h | h | h
    · exact ⟨(-a, -1, 0), by show 0 ≤ -a; omega, by show -1 * a + 0 * 0 = -a; omega, ⟨-1, by show a = -a * -1; omega⟩, ⟨0, by show (0 : Int) = -a * 0; omega⟩, fun _ => ⟨rfl, by show (-1 : Int) = _; rw [if_pos h]⟩, fun z => absurd rfl z⟩
    · exact ⟨(0, 0, 0), by show (0 : Int) ≤ 0; omega, by show 0 * a + 0 * 0 = 0; omega, ⟨0, by show a = 0 * 0; omega⟩, ⟨0, rfl⟩, fun _ => ⟨rfl, by show (0 : Int) = _; rw [if_neg (by omega), if_neg (by omega)]⟩, fun z => absurd rfl z⟩
    · exact ⟨(a, 1, 0), by show 0 ≤ a; omega, by show 1 * a + 0 * 0 = a; omega, ⟨1, by show a = a * 1; omega⟩, ⟨0, by show (0 : Int) = a * 0; omega⟩, fun _ => ⟨rfl, by show (1 : Int) = _; rw [if_neg (by omega), if_pos h]⟩, fun z => absurd rfl z⟩
  · have g0 := gcd_pos a hb
    have ga : ((Int.gcd a b : Nat) : Int) ∣ a := Int.gcd_dvd_left _ _
    have gb : ((Int.gcd a b : Nat) : Int) ∣ b := Int.gcd_dvd_right _ _
    generalize ((Int.gcd a b : Nat) : Int) = g at *
    obtain ⟨A, eA⟩ := ga
    obtain ⟨B, eB⟩ := gb
    have hB : B ≠ 0 := fun z => hb (by rw [eB, z, Int.mul_zero])
    have eB' : (b.natAbs : Int) / g = B.natAbs := by
      have : (b.natAbs : Int) = g * (B.natAbs : Int) := by rw [eB, Int.natAbs_mul, Int.natCast_mul]; congr 1; omega
      rw [this, Int.mul_ediv_cancel_left _ (Int.ne_of_gt g0)]
    have m0 : (0 : Int) < B.natAbs := by omega
    have em := Int.mul_ediv_add_emod s0 (B.natAbs : Int)
    obtain ⟨σ, hσ⟩ : ∃ σ : Int, (B.natAbs : Int) = σ * B := by
      rcases Int.le_total 0 B with z | z
      · exact ⟨1, by omega⟩
      · exact ⟨-1, by omega⟩
    refine ⟨(g, s0 % B.natAbs, t0 + (s0 / B.natAbs) * σ * A), Int.le_of_lt g0, ?_, ⟨A, eA⟩, ⟨B, eB⟩, fun z => absurd z hb, fun _ => ⟨g0, Int.emod_nonneg _ (by omega), by show s0 % _ < (b.natAbs : Int) / g; rw [eB']; exact Int.emod_lt_of_pos _ m0⟩⟩
    show s0 % B.natAbs * a + (t0 + (s0 / B.natAbs) * σ * A) * b = g
    rw [← e]
    generalize s0 / (B.natAbs : Int) = q at *
    generalize s0 % (B.natAbs : Int) = r at *
    rw [hσ] at em
    rw [← em, eA, eB]
    grind
/-- the shares of two numbers -/
noncomputable def sh (a b : Int) : Int × Int × Int := Classical.choose (shares_ex a b)
theorem sh_ok (a b : Int) : Shares a b (sh a b).1 (sh a b).2.1 (sh a b).2.2 := Classical.choose_spec (shares_ex a b)
theorem Shares.eq {a b g s t : Int} (h : Shares a b g s t) : sh a b = (g, s, t) := by
  obtain ⟨h1, h2, h3⟩ := (sh_ok a b).uniq h
  exact Prod.ext h1 (Prod.ext h2 h3)
theorem Shares.gcd {a b g s t : Int} (h : Shares a b g s t) : g = ((Int.gcd a b : Nat) : Int) := by
  refine Int.dvd_antisymm h.g0 (by omega) (Int.dvd_coe_gcd h.ga h.gb) ?_
  rw [← h.e]
  exact Int.dvd_add (Int.dvd_mul_of_dvd_right (Int.gcd_dvd_left _ _)) (Int.dvd_mul_of_dvd_right (Int.gcd_dvd_right _ _))
end Num
/-! lists of points, equal or not -/
namespace DL
open PySem PySem.Spec PyProof.Rows L2
theorem shp_ptsL (n : Nat) : ∀ ps : List Pt, shpL (n + 1) (ps.map pt) = true
  | [] => rfl
  | p :: ps => by show (shp (n + 1) (pt p) && shpL (n + 1) (ps.map pt)) = true; rw [shp_ptsL n ps]; rfl
theorem shp_pts (n : Nat) (ps : List Pt) : shp (n + 2) (.lst (ps.map pt)) = true := shp_ptsL n ps
theorem eqD_pt (p q : Pt) : eqD (pt p) (pt q) = decide (p = q) := by
  obtain ⟨a, b⟩ := p
  obtain ⟨c, d⟩ := q
  rw [Bool.eq_iff_iff, decide_eq_true_iff]
  simp [pt, eqD, eqDL, Prod.mk.injEq]
theorem eqDL_pts : ∀ ps qs : List Pt, eqDL (ps.map pt) (qs.map pt) = decide (ps = qs)
  | [], [] => by unfold eqDL; rfl
  | [], q :: qs => by rw [List.map_nil, List.map_cons]; unfold eqDL; simp
  | p :: ps, [] => by rw [List.map_nil, List.map_cons]; unfold eqDL; simp
  | p :: ps, q :: qs => by
    rw [List.map_cons, List.map_cons]
    unfold eqDL
    rw [eqD_pt, eqDL_pts ps qs, Bool.eq_iff_iff]
    simp
theorem eqD_pts (ps qs : List Pt) : eqD (.lst (ps.map pt)) (.lst (qs.map pt)) = decide (ps = qs) := by
  unfold eqD
  exact eqDL_pts ps qs
theorem ifPt {p q : Pt} {A B : Prop} (h1 : p = q → A) (h2 : p ≠ q → B) : if eqD (pt p) (pt q) = true then A else B := by
  rw [eqD_pt]; exact ifd h1 h2
theorem ifPtNe {p q : Pt} {A B : Prop} (h1 : p ≠ q → A) (h2 : p = q → B) : if (!eqD (pt p) (pt q)) = true then A else B := by
  rw [eqD_pt]
  by_cases h : p = q
  · rw [decide_eq_true h, if_neg (by decide)]; exact h2 h
  · rw [decide_eq_false h, if_pos (by decide)]; exact h1 h
theorem ifPts {p q : List Pt} {A B : Prop} (h1 : p = q → A) (h2 : p ≠ q → B) : if eqD (.lst (p.map pt)) (.lst (q.map pt)) = true then A else B := by
  rw [eqD_pts]; exact ifd h1 h2
theorem ifPtsNe {p q : List Pt} {A B : Prop} (h1 : p ≠ q → A) (h2 : p = q → B) : if (!eqD (.lst (p.map pt)) (.lst (q.map pt))) = true then A else B := by
  rw [eqD_pts]
  by_cases h : p = q
  · rw [decide_eq_true h, if_neg (by decide)]; exact h2 h
  · rw [decide_eq_false h, if_pos (by decide)]; exact h1 h
theorem onS_at {l : List Dat} {r j : Int} {d : Dat} {k : Dat → Prop} (e : r = j) (h : atI l j = some d) (q : k d) : onS (atI l r) k := by rw [e]; exact onS_some h q
/-- a place by what is left over -/
theorem onS_mod {l : List Dat} {b n : Int} {k : Dat → Prop} (hn : (l.length : Int) = n) (h0 : 0 < n) (h : ∀ d ∈ l, k d) : onS (atI l (b % n)) k := by
  subst hn
  have h1 := Int.emod_nonneg b (Int.ne_of_gt h0)
  have h2 := Int.emod_lt_of_pos b h0
  have hj : (b % (l.length : Int)).toNat < l.length := by omega
  refine onS_at (j := ((b % (l.length : Int)).toNat : Int)) (by omega) (atI_nat (List.getElem?_eq_getElem hj)) (h _ (List.getElem_mem hj))
end DL
/-! moves -/
namespace Mov
open DL PySem
structure Mv where
  a : Int
  b : Int
  c : Int
  d : Int
  e : Int
  f : Int
def mv (m : Mv) : Dat := .tup [.int m.a, .int m.b, .int m.c, .int m.d, .int m.e, .int m.f]
def det (m : Mv) : Int := m.a * m.d - m.b * m.c
def act (m : Mv) (p : Pt) : Pt := (m.a * p.1 + m.b * p.2 + m.e, m.c * p.1 + m.d * p.2 + m.f)
/-- first, then second -/
def thn (m n : Mv) : Mv := ⟨n.a * m.a + n.b * m.c, n.a * m.b + n.b * m.d, n.c * m.a + n.d * m.c, n.c * m.b + n.d * m.d, n.a * m.e + n.b * m.f + n.e, n.c * m.e + n.d * m.f + n.f⟩
def back (m : Mv) : Mv := ⟨det m * m.d, -det m * m.b, -det m * m.c, det m * m.a, det m * (m.b * m.f - m.d * m.e), det m * (m.c * m.e - m.a * m.f)⟩
def IsMv (m : Mv) : Prop := det m = 1 ∨ det m = -1
instance (m : Mv) : Decidable (IsMv m) := by unfold IsMv; infer_instance
structure BM (k : Nat) (m : Mv) : Prop where
  a : Bt k m.a
  b : Bt k m.b
  c : Bt k m.c
  d : Bt k m.d
  e : Bt k m.e
  f : Bt k m.f
theorem BM.mono {k l : Nat} {m : Mv} (h : BM k m) (hl : k ≤ l) : BM l m := ⟨h.a.mono hl, h.b.mono hl, h.c.mono hl, h.d.mono hl, h.e.mono hl, h.f.mono hl⟩
theorem act_thn (m n : Mv) (p : Pt) : act (thn m n) p = act n (act m p) := by
  refine Prod.ext ?_ ?_
  · show (n.a * m.a + n.b * m.c) * p.1 + (n.a * m.b + n.b * m.d) * p.2 + (n.a * m.e + n.b * m.f + n.e) = n.a * (m.a * p.1 + m.b * p.2 + m.e) + n.b * (m.c * p.1 + m.d * p.2 + m.f) + n.e
    grind
  · show (n.c * m.a + n.d * m.c) * p.1 + (n.c * m.b + n.d * m.d) * p.2 + (n.c * m.e + n.d * m.f + n.f) = n.c * (m.a * p.1 + m.b * p.2 + m.e) + n.d * (m.c * p.1 + m.d * p.2 + m.f) + n.f
    grind
theorem det_thn (m n : Mv) : det (thn m n) = det m * det n := by
  show (n.a * m.a + n.b * m.c) * (n.c * m.b + n.d * m.d) - (n.a * m.b + n.b * m.d) * (n.c * m.a + n.d * m.c) = (m.a * m.d - m.b * m.c) * (n.a * n.d - n.b * n.c)
  grind
theorem IsMv.thn {m n : Mv} (h : IsMv m) (h' : IsMv n) : IsMv (thn m n) := by
  unfold IsMv
  rw [det_thn]
  rcases h with h | h <;> rcases h' with h' | h' <;> rw [h, h'] <;> decide
theorem IsMv.sq {m : Mv} (h : IsMv m) : det m * det m = 1 := by
  rcases h with h | h <;> rw [h] <;> rfl
theorem det_back {m : Mv} (h : IsMv m) : det (back m) = det m := by
  show det m * m.d * (det m * m.a) - -det m * m.b * (-det m * m.c) = det m
  have h2 := h.sq
  have : m.a * m.d - m.b * m.c = det m := rfl
  generalize det m = D at *
  have : D * m.d * (D * m.a) - -D * m.b * (-D * m.c) = (D * D) * (m.a * m.d - m.b * m.c) := by grind
  rw [this, h2]; omega
theorem IsMv.back {m : Mv} (h : IsMv m) : IsMv (back m) := by
  unfold IsMv; rw [det_back h]; exact h
theorem back_act {m : Mv} (h : IsMv m) (p : Pt) : act (back m) (act m p) = p := by
  have h2 := h.sq
  have e : m.a * m.d - m.b * m.c = det m := rfl
  refine Prod.ext ?_ ?_
  · show det m * m.d * (m.a * p.1 + m.b * p.2 + m.e) + -det m * m.b * (m.c * p.1 + m.d * p.2 + m.f) + det m * (m.b * m.f - m.d * m.e) = p.1
    generalize det m = D at *
    have : D * m.d * (m.a * p.1 + m.b * p.2 + m.e) + -D * m.b * (m.c * p.1 + m.d * p.2 + m.f) + D * (m.b * m.f - m.d * m.e) = D * (m.a * m.d - m.b * m.c) * p.1 := by grind
    rw [this, e, h2]; omega
  · show -det m * m.c * (m.a * p.1 + m.b * p.2 + m.e) + det m * m.a * (m.c * p.1 + m.d * p.2 + m.f) + det m * (m.c * m.e - m.a * m.f) = p.2
    generalize det m = D at *
    have : -D * m.c * (m.a * p.1 + m.b * p.2 + m.e) + D * m.a * (m.c * p.1 + m.d * p.2 + m.f) + D * (m.c * m.e - m.a * m.f) = D * (m.a * m.d - m.b * m.c) * p.2 := by grind
    rw [this, e, h2]; omega
theorem act_back {m : Mv} (h : IsMv m) (p : Pt) : act m (act (back m) p) = p := by
  have h2 := h.sq
  have e : m.a * m.d - m.b * m.c = det m := rfl
  refine Prod.ext ?_ ?_
  · show m.a * (det m * m.d * p.1 + -det m * m.b * p.2 + det m * (m.b * m.f - m.d * m.e)) + m.b * (-det m * m.c * p.1 + det m * m.a * p.2 + det m * (m.c * m.e - m.a * m.f)) + m.e = p.1
    generalize det m = D at *
    have : m.a * (D * m.d * p.1 + -D * m.b * p.2 + D * (m.b * m.f - m.d * m.e)) + m.b * (-D * m.c * p.1 + D * m.a * p.2 + D * (m.c * m.e - m.a * m.f)) + m.e = D * (m.a * m.d - m.b * m.c) * (p.1 - m.e) + m.e := by grind
    rw [this, e, h2]; omega
  · show m.c * (det m * m.d * p.1 + -det m * m.b * p.2 + det m * (m.b * m.f - m.d * m.e)) + m.d * (-det m * m.c * p.1 + det m * m.a * p.2 + det m * (m.c * m.e - m.a * m.f)) + m.f = p.2
    generalize det m = D at *
    have : m.c * (D * m.d * p.1 + -D * m.b * p.2 + D * (m.b * m.f - m.d * m.e)) + m.d * (-D * m.c * p.1 + D * m.a * p.2 + D * (m.c * m.e - m.a * m.f)) + m.f = D * (m.a * m.d - m.b * m.c) * (p.2 - m.f) + m.f := by grind
    rw [this, e, h2]; omega
/-- a move is told by where it takes three points -/
theorem mv_three {m n : Mv} (h0 : act m (0, 0) = act n (0, 0)) (h1 : act m (1, 0) = act n (1, 0)) (h2 : act m (0, 1) = act n (0, 1)) : m = n := by
  obtain ⟨a, b, c, d, e, f⟩ := m
  obtain ⟨a', b', c', d', e', f'⟩ := n
  unfold act at h0 h1 h2
  simp only [Prod.mk.injEq] at h0 h1 h2
  simp only [Mv.mk.injEq]
  omega
theorem act_inj {m : Mv} (h : IsMv m) {p q : Pt} (e : act m p = act m q) : p = q := by
  rw [← back_act h p, e, back_act h q]
/-- what a thing is, asked whether it is a move -/
def isInt : Dat → Bool
  | .int _ => true
  | _ => false
def mvB : Dat → Bool
  | .tup [.int a, .int b, .int c, .int d, _, _] => decide (a * d - b * c = 1 ∨ a * d - b * c = -1)
  | _ => false
/-- six numbers -/
def sixB : Dat → Bool
  | .tup [.int _, .int _, .int _, .int _, .int _, .int _] => true
  | _ => false
def moveB (d : Dat) : Bool := sixB d && mvB d
theorem moveB_mv (m : Mv) : moveB (mv m) = decide (IsMv m) := by
  show (true && decide (m.a * m.d - m.b * m.c = 1 ∨ m.a * m.d - m.b * m.c = -1)) = _
  rw [Bool.true_and]
  rfl
theorem six_of {d : Dat} (h : sixB d = true) : ∃ m, d = mv m := by
  unfold sixB at h
  split at h
  · exact ⟨⟨_, _, _, _, _, _⟩, rfl⟩
  · exact nomatch h
theorem act_bp {j k : Nat} {m : Mv} {p : Pt} (hm : BM j m) (hp : BP k p) : BP (j + k + 2) (act m p) := by
  have h := hp.x
  have h' := hp.y
  refine ⟨?_, ?_⟩
  · refine (((hm.a.mul h).add (hm.b.mul h')).add hm.e).mono ?_; omega
  · refine (((hm.c.mul h).add (hm.d.mul h')).add hm.f).mono ?_; omega
theorem thn_bm {j k : Nat} {m n : Mv} (hm : BM j m) (hn : BM k n) : BM (j + k + 2) (thn m n) := by
  refine ⟨?_, ?_, ?_, ?_, ?_, ?_⟩
  · refine ((hn.a.mul hm.a).add (hn.b.mul hm.c)).mono ?_; omega
  · refine ((hn.a.mul hm.b).add (hn.b.mul hm.d)).mono ?_; omega
  · refine ((hn.c.mul hm.a).add (hn.d.mul hm.c)).mono ?_; omega
  · refine ((hn.c.mul hm.b).add (hn.d.mul hm.d)).mono ?_; omega
  · refine (((hn.a.mul hm.e).add (hn.b.mul hm.f)).add hn.e).mono ?_; omega
  · refine (((hn.c.mul hm.e).add (hn.d.mul hm.f)).add hn.f).mono ?_; omega
theorem back_bm {j : Nat} {m : Mv} (hm : BM j m) (h : IsMv m) : BM (j + j + 3) (back m) := by
  have b1 : Bt 2 (det m) := by rcases h with h | h <;> rw [h] <;> exact Bt.lit (by decide)
  have b2 : Bt 2 (-det m) := b1.neg
  refine ⟨(b1.mul hm.d).mono (by omega), (b2.mul hm.b).mono (by omega), (b2.mul hm.c).mono (by omega), (b1.mul hm.a).mono (by omega), (b1.mul ((hm.b.mul hm.f).sub (hm.d.mul hm.e))).mono (by omega), (b1.mul ((hm.c.mul hm.e).sub (hm.a.mul hm.f))).mono (by omega)⟩
/-- one behind the other by three points -/
theorem thn_pts (m n : Mv) : thn m n = ⟨(act n (act m (1, 0))).1 - (act n (act m (0, 0))).1, (act n (act m (0, 1))).1 - (act n (act m (0, 0))).1, (act n (act m (1, 0))).2 - (act n (act m (0, 0))).2, (act n (act m (0, 1))).2 - (act n (act m (0, 0))).2, (act n (act m (0, 0))).1, (act n (act m (0, 0))).2⟩ := by
  unfold thn act
  simp only [Mv.mk.injEq]
  refine ⟨?_, ?_, ?_, ?_, ?_, ?_⟩ <;> grind
/-! ### a level -/
@[irreducible] def gd (p q : Pt) : Int := ((Int.gcd (q.1 - p.1) (q.2 - p.2) : Nat) : Int)
@[irreducible] noncomputable def lv (p q : Pt) : Mv :=
  let u := (q.1 - p.1) / gd p q
  let v := (q.2 - p.2) / gd p q
  let w := Num.sh u v
  ⟨w.2.1, w.2.2, -v, u, -w.2.1 * p.1 - w.2.2 * p.2, v * p.1 - u * p.2⟩
theorem sh_gd (p q : Pt) : (Num.sh (q.1 - p.1) (q.2 - p.2)).1 = gd p q := by unfold gd; exact (Num.sh_ok (q.1 - p.1) (q.2 - p.2)).gcd
theorem lv_def (p q : Pt) : lv p q = ⟨(Num.sh ((q.1 - p.1) / gd p q) ((q.2 - p.2) / gd p q)).2.1, (Num.sh ((q.1 - p.1) / gd p q) ((q.2 - p.2) / gd p q)).2.2, -((q.2 - p.2) / gd p q), (q.1 - p.1) / gd p q, -(Num.sh ((q.1 - p.1) / gd p q) ((q.2 - p.2) / gd p q)).2.1 * p.1 - (Num.sh ((q.1 - p.1) / gd p q) ((q.2 - p.2) / gd p q)).2.2 * p.2, ((q.2 - p.2) / gd p q) * p.1 - ((q.1 - p.1) / gd p q) * p.2⟩ := by unfold lv; rfl
theorem gd_pos {p q : Pt} (h : p ≠ q) : 0 < gd p q := by
  unfold gd
  by_cases h1 : q.2 - p.2 = 0
  · have h2 : q.1 - p.1 ≠ 0 := fun z => h (Prod.ext (by omega) (by omega))
    have := Int.gcd_pos_of_ne_zero_left (q.2 - p.2) h2
    omega
  · have := Int.gcd_pos_of_ne_zero_right (q.1 - p.1) h1
    omega
theorem gd_one {p q : Pt} (h : gd p q ≠ 0) : p ≠ q := fun e => by subst e; apply h; unfold gd; simp
theorem gd_u (p q : Pt) : gd p q ∣ q.1 - p.1 := by unfold gd; exact Int.gcd_dvd_left _ _
theorem gd_v (p q : Pt) : gd p q ∣ q.2 - p.2 := by unfold gd; exact Int.gcd_dvd_right _ _
/-- what is known of it -/
structure Lv (p q : Pt) (m : Mv) (g u v s t : Int) : Prop where
  em : m = ⟨s, t, -v, u, -s * p.1 - t * p.2, v * p.1 - u * p.2⟩
  g0 : 0 < g
  eu : q.1 - p.1 = g * u
  ev : q.2 - p.2 = g * v
  one : s * u + t * v = 1
  z : v = 0 → t = 0 ∧ s = u
  nz : v ≠ 0 → 0 ≤ s ∧ s < v.natAbs
theorem lv_ok {p q : Pt} (h : p ≠ q) : ∃ s t, Lv p q (lv p q) (gd p q) ((q.1 - p.1) / gd p q) ((q.2 - p.2) / gd p q) s t ∧ s = (Num.sh ((q.1 - p.1) / gd p q) ((q.2 - p.2) / gd p q)).2.1 ∧ t = (Num.sh ((q.1 - p.1) / gd p q) ((q.2 - p.2) / gd p q)).2.2 := by
  have g0 := gd_pos h
  have h1 := Int.mul_ediv_cancel' (gd_u p q)
  have h2 := Int.mul_ediv_cancel' (gd_v p q)
  have hs := Num.sh_ok ((q.1 - p.1) / gd p q) ((q.2 - p.2) / gd p q)
  refine ⟨_, _, ?_, rfl, rfl⟩
  have hm := lv_def p q
  have hgg : (Num.sh ((q.1 - p.1) / gd p q) ((q.2 - p.2) / gd p q)).1 = 1 := by
    rw [hs.gcd]
    have e := Int.gcd_ediv (gd_u p q) (gd_v p q)
    rw [e]
    have : (Int.gcd (q.1 - p.1) (q.2 - p.2)) / (gd p q).natAbs = 1 := by
      unfold gd
      rw [Int.natAbs_natCast]
      refine Nat.div_self ?_
      unfold gd at g0
      omega
    omega
  rw [hgg] at hs
  generalize (q.1 - p.1) / gd p q = u at *
  generalize (q.2 - p.2) / gd p q = v at *
  refine ⟨hm, g0, h1.symm, h2.symm, hs.e, fun z => ?_, fun z => ?_⟩
  · obtain ⟨z1, z2⟩ := hs.z z
    refine ⟨z1, ?_⟩
    have e := hs.e
    rw [z1, Int.zero_mul, Int.add_zero] at e
    rcases Int.lt_trichotomy u 0 with w | w | w
    · rw [if_pos w] at z2; rw [z2] at e ⊢; omega
    · rw [if_neg (by omega), if_neg (by omega)] at z2; rw [z2] at e; omega
    · rw [if_neg (by omega), if_pos w] at z2; rw [z2] at e ⊢; omega
  · obtain ⟨z1, z2, z3⟩ := hs.nz z
    exact ⟨z2, by rw [Int.ediv_one] at z3; exact z3⟩
theorem Lv.mv {p q : Pt} {m : Mv} {g u v s t : Int} (h : Lv p q m g u v s t) : det m = 1 := by
  rw [h.em]; show s * u - t * -v = 1
  have := h.one
  rw [Int.mul_neg]; omega
theorem Lv.at0 {p q : Pt} {m : Mv} {g u v s t : Int} (h : Lv p q m g u v s t) : act m p = (0, 0) := by
  rw [h.em]
  refine Prod.ext ?_ ?_
  · show s * p.1 + t * p.2 + (-s * p.1 - t * p.2) = 0; grind
  · show -v * p.1 + u * p.2 + (v * p.1 - u * p.2) = 0; grind
theorem Lv.at1 {p q : Pt} {m : Mv} {g u v s t : Int} (h : Lv p q m g u v s t) : act m q = (g, 0) := by
  have e1 := h.eu
  have e2 := h.ev
  have e3 := h.one
  rw [h.em]
  refine Prod.ext ?_ ?_
  · show s * q.1 + t * q.2 + (-s * p.1 - t * p.2) = g
    have : s * q.1 + t * q.2 + (-s * p.1 - t * p.2) = s * (q.1 - p.1) + t * (q.2 - p.2) := by grind
    rw [this, e1, e2]
    have : s * (g * u) + t * (g * v) = g * (s * u + t * v) := by grind
    rw [this, e3, Int.mul_one]
  · show -v * q.1 + u * q.2 + (v * p.1 - u * p.2) = 0
    have : -v * q.1 + u * q.2 + (v * p.1 - u * p.2) = u * (q.2 - p.2) - v * (q.1 - p.1) := by grind
    rw [this, e1, e2]; grind
theorem gd_bt {k : Nat} {p q : Pt} (hp : BP k p) (hq : BP k q) (h : p ≠ q) : Bt (k + 1) (gd p q) := by
  have b1 := (hq.x.sub hp.x).mono (l := k + 1) (by omega)
  have b2 := (hq.y.sub hp.y).mono (l := k + 1) (by omega)
  by_cases z : q.2 - p.2 = 0
  · have z2 : q.1 - p.1 ≠ 0 := fun z' => h (Prod.ext (by omega) (by omega))
    exact b1.le_abs (Nat.le_of_dvd (by omega) (Int.natAbs_dvd_natAbs.mpr (gd_u p q)))
  · exact b2.le_abs (Nat.le_of_dvd (by omega) (Int.natAbs_dvd_natAbs.mpr (gd_v p q)))
theorem lv_bm {k : Nat} {p q : Pt} (hp : BP k p) (hq : BP k q) (h : p ≠ q) : BM (k + k + 4) (lv p q) := by
  obtain ⟨s, t, L, es, et⟩ := lv_ok h
  have b1 := (hq.x.sub hp.x).mono (l := k + 1) (by omega) |>.ediv (m := gd p q)
  have b2 := (hq.y.sub hp.y).mono (l := k + 1) (by omega) |>.ediv (m := gd p q)
  obtain ⟨bg, bs, bt⟩ := (Num.sh_ok ((q.1 - p.1) / gd p q) ((q.2 - p.2) / gd p q)).bt b1 b2 (by omega)
  rw [← es] at bs
  rw [← et] at bt
  rw [L.em]
  exact ⟨bs.mono (by omega), bt.mono (by omega), b2.neg.mono (by omega), b1.mono (by omega), ((bs.neg.mul hp.x).sub (bt.mul hp.y)).mono (by omega), ((b2.mul hp.x).sub (b1.mul hp.y)).mono (by omega)⟩
theorem gd_dvd (m : Mv) (p q : Pt) : gd p q ∣ gd (act m p) (act m q) := by
  have h1 := gd_u p q
  have h2 := gd_v p q
  have e1 : (act m q).1 - (act m p).1 = m.a * (q.1 - p.1) + m.b * (q.2 - p.2) := by unfold act; grind
  have e2 : (act m q).2 - (act m p).2 = m.c * (q.1 - p.1) + m.d * (q.2 - p.2) := by unfold act; grind
  have d1 : gd p q ∣ (act m q).1 - (act m p).1 := by rw [e1]; exact Int.dvd_add (Int.dvd_mul_of_dvd_right h1) (Int.dvd_mul_of_dvd_right h2)
  have d2 : gd p q ∣ (act m q).2 - (act m p).2 := by rw [e2]; exact Int.dvd_add (Int.dvd_mul_of_dvd_right h1) (Int.dvd_mul_of_dvd_right h2)
  have := Int.dvd_coe_gcd d1 d2
  unfold gd at *
  exact this
theorem gd_nonneg (p q : Pt) : 0 ≤ gd p q := by unfold gd; omega
theorem gd_act {m : Mv} (h : IsMv m) (p q : Pt) : gd (act m p) (act m q) = gd p q := by
  refine Int.dvd_antisymm (gd_nonneg _ _) (gd_nonneg _ _) ?_ (gd_dvd m p q)
  have := gd_dvd (back m) (act m p) (act m q)
  rwa [back_act h, back_act h] at this
/-- a move is told by what it does behind another one -/
theorem thn_cancel {f m n : Mv} (h : IsMv f) (e : thn f m = thn f n) : m = n := by
  have k : ∀ q, act m q = act n q := fun q => by
    have : act m (act f (act (back f) q)) = act n (act f (act (back f) q)) := by rw [← act_thn f m, ← act_thn f n, e]
    rwa [act_back h] at this
  exact mv_three (k _) (k _) (k _)
theorem thn_assoc (l m n : Mv) : thn (thn l m) n = thn l (thn m n) := by
  refine mv_three ?_ ?_ ?_ <;> simp only [act_thn]
theorem thn_back {m : Mv} (h : IsMv m) (f : Mv) : thn (thn f m) (back m) = f := by
  refine mv_three ?_ ?_ ?_ <;> simp only [act_thn, back_act h]
theorem eqD_mv (m : Mv) : eqD (mv m) (mv m) = true := by simp [mv, eqD, eqDL]
/-- of a level: where the third point lies -/
theorem lv_third {f : Mv} (h : IsMv f) : ∃ l : Mv, l = lv (act f (0, 0)) (act f (1, 0)) ∧ det l = 1 ∧ act l (act f (0, 0)) = (0, 0) ∧ act l (act f (1, 0)) = (1, 0) ∧ ((act l (act f (0, 1))).2 = 1 ∨ (act l (act f (0, 1))).2 = -1) ∧ act f (0, 0) ≠ act f (1, 0) := by
  have hne : act f (0, 0) ≠ act f (1, 0) := fun e => by
    have := act_inj h e
    simp at this
  have g1 : gd (act f (0, 0)) (act f (1, 0)) = 1 := by
    rw [gd_act h]; unfold gd; rfl
  obtain ⟨s, t, L, _, _⟩ := lv_ok hne
  have a0 := L.at0
  have a1 := L.at1
  have d := L.mv
  rw [g1] at a1
  refine ⟨_, rfl, d, a0, a1, ?_, hne⟩
  generalize lv (act f (0, 0)) (act f (1, 0)) = l at *
  have hd : det (thn f l) = 1 ∨ det (thn f l) = -1 := h.thn (.inl d)
  rw [← act_thn] at a0 a1 ⊢
  generalize thn f l = n at *
  unfold act at a0 a1 ⊢
  unfold det at hd
  simp only [Prod.mk.injEq] at a0 a1
  show n.c * 0 + n.d * 1 + n.f = 1 ∨ n.c * 0 + n.d * 1 + n.f = -1
  have e1 : n.a = 1 := by omega
  have e2 : n.c = 0 := by omega
  rw [e1, e2] at hd
  omega
/-- the slope between two that leave the first two points -/
theorem slope_ok {P Q : Pt} (hP : P.2 = 1 ∨ P.2 = -1) (hQ : Q.2 = 1 ∨ Q.2 = -1) : IsMv ⟨1, (Q.1 - P.1) * P.2, 0, Q.2 * P.2, 0, 0⟩ ∧ act ⟨1, (Q.1 - P.1) * P.2, 0, Q.2 * P.2, 0, 0⟩ (0, 0) = (0, 0) ∧ act ⟨1, (Q.1 - P.1) * P.2, 0, Q.2 * P.2, 0, 0⟩ (1, 0) = (1, 0) ∧ act ⟨1, (Q.1 - P.1) * P.2, 0, Q.2 * P.2, 0, 0⟩ P = Q := by
  obtain ⟨x, y⟩ := P
  obtain ⟨z, w⟩ := Q
  dsimp only at hP hQ
  unfold IsMv det act
  rcases hP with rfl | rfl <;> rcases hQ with rfl | rfl <;> (refine ⟨?_, ?_, ?_, ?_⟩) <;> (try simp only [Prod.mk.injEq]) <;> omega
/-- found back -/
theorem found_back {f m : Mv} (hf : IsMv f) (hm : IsMv m) {l l' s : Mv} (hl : IsMv l) (hl' : IsMv l') (h0 : act l (act f (0, 0)) = (0, 0)) (h1 : act l (act f (1, 0)) = (1, 0)) (h0' : act l' (act m (act f (0, 0))) = (0, 0)) (h1' : act l' (act m (act f (1, 0))) = (1, 0)) (s0 : act s (0, 0) = (0, 0)) (s1 : act s (1, 0) = (1, 0)) (s2 : act s (act l (act f (0, 1))) = act l' (act m (act f (0, 1)))) : thn (thn l s) (back l') = m := by
  have e : thn (thn f l) s = thn (thn f m) l' := by
    refine mv_three ?_ ?_ ?_ <;> simp only [act_thn]
    · rw [h0, s0, h0']
    · rw [h1, s1, h1']
    · exact s2
  refine thn_cancel hf ?_
  rw [← thn_assoc, ← thn_assoc, e, thn_back hl']
theorem mv_pts (M : Mv) : mv M = .tup [.int ((act M (1, 0)).1 - (act M (0, 0)).1), .int ((act M (0, 1)).1 - (act M (0, 0)).1), .int ((act M (1, 0)).2 - (act M (0, 0)).2), .int ((act M (0, 1)).2 - (act M (0, 0)).2), .int (act M (0, 0)).1, .int (act M (0, 0)).2] := by
  unfold mv act
  simp only [Dat.tup.injEq, List.cons.injEq, Dat.int.injEq]
  refine ⟨?_, ?_, ?_, ?_, ?_, ?_, trivial⟩ <;> grind
theorem bm_pts {k : Nat} {M : Mv} (h0 : BP k (act M (0, 0))) (h1 : BP k (act M (1, 0))) (h2 : BP k (act M (0, 1))) : BM (k + 1) M := by
  have e := mv_pts M
  unfold mv at e
  simp only [Dat.tup.injEq, List.cons.injEq, Dat.int.injEq] at e
  obtain ⟨ea, eb, ec, ed, ee, ef, _⟩ := e
  refine ⟨?_, ?_, ?_, ?_, ?_, ?_⟩
  · rw [ea]; exact (h1.x.sub h0.x).mono (by omega)
  · rw [eb]; exact (h2.x.sub h0.x).mono (by omega)
  · rw [ec]; exact (h1.y.sub h0.y).mono (by omega)
  · rw [ed]; exact (h2.y.sub h0.y).mono (by omega)
  · rw [ee]; exact h0.x.mono (by omega)
  · rw [ef]; exact h0.y.mono (by omega)
/-- a move of small slopes -/
theorem act_small {k : Nat} {m : Mv} {p : Pt} (ha : Bt 4 m.a) (hb : Bt 4 m.b) (hc : Bt 4 m.c) (hd : Bt 4 m.d) (he : Bt 72 m.e) (hf : Bt 72 m.f) (hp : BP k p) (hk : 72 ≤ k) : BP (k + 6) (act m p) := by
  have h := hp.x
  have h' := hp.y
  refine ⟨?_, ?_⟩
  · refine (((ha.mul h).add (hb.mul h')).add he).mono ?_; omega
  · refine (((hc.mul h).add (hd.mul h')).add hf).mono ?_; omega
def three : List Pt := [(0, 0), (1, 0), (0, 1)]
theorem maps_thn (m n : Mv) (ps : List Pt) : (ps.map (act m)).map (act n) = ps.map (act (thn m n)) := by
  rw [List.map_map]
  exact List.map_congr_left fun p _ => (act_thn m n p).symm
end Mov
/-! the hand of three points -/
namespace Hull
open DL PySem
/-- what two ways from a point span -/
def span (P Q R : Pt) : Int := (Q.1 - P.1) * (R.2 - P.2) - (Q.2 - P.2) * (R.1 - P.1)
def turn (P Q R : Pt) : Int := if (Q.1 - P.1) * (R.2 - P.2) > (Q.2 - P.2) * (R.1 - P.1) then 1 else if (Q.1 - P.1) * (R.2 - P.2) < (Q.2 - P.2) * (R.1 - P.1) then -1 else 0
theorem turn_pos {P Q R : Pt} : turn P Q R = 1 ↔ 0 < span P Q R := by
  unfold turn span
  split
  · omega
  · split <;> omega
theorem turn_neg {P Q R : Pt} : turn P Q R = -1 ↔ span P Q R < 0 := by
  unfold turn span
  split
  · omega
  · split <;> omega
theorem turn_zero {P Q R : Pt} : turn P Q R = 0 ↔ span P Q R = 0 := by
  unfold turn span
  split
  · omega
  · split <;> omega
theorem turn_le {P Q R : Pt} : turn P Q R ≤ 0 ↔ span P Q R ≤ 0 := by
  unfold turn span
  split
  · omega
  · split <;> omega
end Hull
/-! another whole point in a triangle -/
namespace Hull
open DL PySem PySem.Spec PyProof.Rows L2 Mov
/-- in or on the triangle -/
structure InTri (P Q R S : Pt) : Prop where
  a : 0 ≤ span R P S * span P Q R
  b : 0 ≤ span P Q S * span P Q R
  c : 0 ≤ span Q R S * span P Q R
theorem span_act (m : Mv) (a b c : Pt) : span (act m a) (act m b) (act m c) = det m * span a b c := by
  unfold span act det; grind
theorem InTri.back {P Q R S : Pt} {m : Mv} (hm : det m = 1) (h : InTri (act m P) (act m Q) (act m R) (act m S)) : InTri P Q R S := by
  obtain ⟨h1, h2, h3⟩ := h
  simp only [span_act, hm, Int.one_mul] at h1 h2 h3
  exact ⟨h1, h2, h3⟩
theorem sqn (x : Int) : 0 ≤ x * x := by
  rcases Int.le_total 0 x with h | h
  · exact Int.mul_nonneg h h
  · have := Int.mul_nonneg (show 0 ≤ -x by omega) (show 0 ≤ -x by omega)
    rwa [Int.neg_mul_neg] at this
theorem tri_long {g x y : Int} (hg : 1 < g) : InTri (0, 0) (g, 0) (x, y) (1, 0) := by
  have q := sqn y
  have e : span (0, 0) (g, 0) (x, y) = g * y := by unfold span; grind
  refine ⟨?_, ?_, ?_⟩
  · have e1 : span (x, y) (0, 0) (1, 0) = y := by unfold span; grind
    rw [e, e1]
    have : y * (g * y) = g * (y * y) := by grind
    rw [this]; exact Int.mul_nonneg (by omega) q
  · have e1 : span (0, 0) (g, 0) (1, 0) = 0 := by unfold span; grind
    rw [e1]; simp
  · have e1 : span (g, 0) (x, y) (1, 0) = (g - 1) * y := by unfold span; grind
    rw [e, e1]
    have : (g - 1) * y * (g * y) = (g - 1) * g * (y * y) := by grind
    rw [this]; exact Int.mul_nonneg (Int.mul_nonneg (by omega) (by omega)) q
theorem tri_high {h x y c s : Int} (h1 : 1 ≤ h) (hs : s = 1 ∨ s = -1) (hy : y = s * h) (c1 : x ≤ h * c) (c2 : h * c ≤ x + h - 1) : InTri (0, 0) (1, 0) (x, y) (c, s) := by
  have e : span (0, 0) (1, 0) (x, y) = y := by unfold span; grind
  have ss : s * s = 1 := by rcases hs with rfl | rfl <;> rfl
  refine ⟨?_, ?_, ?_⟩
  · have e1 : span (x, y) (0, 0) (c, s) = y * c - x * s := by unfold span; grind
    rw [e, e1, hy]
    have : (s * h * c - x * s) * (s * h) = (s * s) * ((h * c - x) * h) := by grind
    rw [this, ss, Int.one_mul]; exact Int.mul_nonneg (by omega) (by omega)
  · have e1 : span (0, 0) (1, 0) (c, s) = s := by unfold span; grind
    rw [e, e1, hy]
    have : s * (s * h) = (s * s) * h := by grind
    rw [this, ss]; omega
  · have e1 : span (1, 0) (x, y) (c, s) = (x - 1) * s - y * (c - 1) := by unfold span; grind
    rw [e, e1, hy]
    have : ((x - 1) * s - s * h * (c - 1)) * (s * h) = (s * s) * ((x - 1 - h * c + h) * h) := by grind
    rw [this, ss, Int.one_mul]; exact Int.mul_nonneg (by omega) (by omega)
theorem span_lv {P Q R : Pt} (hne : P ≠ Q) : span P Q R = gd P Q * (act (lv P Q) R).2 := by
  obtain ⟨s, t, hl, _⟩ := lv_ok hne
  have := span_act (lv P Q) P Q R
  rw [hl.at0, hl.at1, hl.mv, Int.one_mul] at this
  rw [← this]
  unfold span; grind
end Hull
namespace Hull
open DL PySem PySem.Spec PyProof.Rows L2 Mov
theorem tri_sum (P Q R S : Pt) : span R P S + span P Q S + span Q R S = span P Q R := by unfold span; grind
theorem tri_at (P Q R S : Pt) : span P Q R * (S.1 - P.1) = span R P S * (Q.1 - P.1) + span P Q S * (R.1 - P.1) ∧ span P Q R * (S.2 - P.2) = span R P S * (Q.2 - P.2) + span P Q S * (R.2 - P.2) := by
  unfold span; constructor <;> grind
theorem tri_rot (P Q R : Pt) : span Q R P = span P Q R := by unfold span; grind
theorem tri_corner {P Q R S : Pt} (h : span P Q R ≠ 0) (a : span R P S = 0) (b : span P Q S = 0) : S = P := by
  obtain ⟨e1, e2⟩ := tri_at P Q R S
  rw [a, b] at e1 e2
  have e1 : span P Q R * (S.1 - P.1) = 0 := by rw [e1]; simp
  have e2 : span P Q R * (S.2 - P.2) = 0 := by rw [e2]; simp
  have f1 := (Int.mul_eq_zero.mp e1).resolve_left h
  have f2 := (Int.mul_eq_zero.mp e2).resolve_left h
  obtain ⟨x, y⟩ := S
  obtain ⟨u, v⟩ := P
  have f1 : x - u = 0 := f1
  have f2 : y - v = 0 := f2
  rw [show x = u by omega, show y = v by omega]
theorem tri_only {P Q R S : Pt} (h : (span P Q R).natAbs = 1) (t : InTri P Q R S) : S = P ∨ S = Q ∨ S = R := by
  have hs := tri_sum P Q R S
  have h0 : span P Q R ≠ 0 := by omega
  have hq : span Q R P ≠ 0 := by rw [tri_rot]; exact h0
  have hr : span R P Q ≠ 0 := by rw [← tri_rot R P Q]; exact h0
  obtain ⟨a, b, c⟩ := t
  have hh : span P Q R = 1 ∨ span P Q R = -1 := by omega
  rcases hh with e | e
  · rw [e] at a b c hs
    by_cases ea : span R P S = 0
    · by_cases eb : span P Q S = 0
      · exact .inl (tri_corner h0 ea eb)
      · exact .inr (.inr (tri_corner hr (by omega) ea))
    · exact .inr (.inl (tri_corner hq (by omega) (by omega)))
  · rw [e] at a b c hs
    by_cases ea : span R P S = 0
    · by_cases eb : span P Q S = 0
      · exact .inl (tri_corner h0 ea eb)
      · exact .inr (.inr (tri_corner hr (by omega) ea))
    · exact .inr (.inl (tri_corner hq (by omega) (by omega)))
end Hull
/-! a thing is like itself; places of a list -/
namespace DL
open PySem PySem.Spec PyProof.Rows L2
mutual
theorem eqD_refl : ∀ (n : Nat) (d : Dat), shp n d = true → eqD d d = true
  | n, .non, _ => by unfold eqD; rfl
  | n, .bl b, _ => by unfold eqD; cases b <;> rfl
  | n, .int i, _ => by unfold eqD; exact beq_self_eq_true i
  | n, .str x, _ => by unfold eqD; exact beq_self_eq_true x
  | n + 1, .tup ds, h => by unfold eqD; unfold shp at h; exact eqDL_refl n ds h
  | n + 1, .lst ds, h => by unfold eqD; unfold shp at h; exact eqDL_refl n ds h
  | 0, .tup ds, h => by unfold shp at h; exact nomatch h
  | 0, .lst ds, h => by unfold shp at h; exact nomatch h
  | 0, .dic ks, h => by unfold shp at h; exact nomatch h
  | n + 1, .dic ks, h => by unfold shp at h; exact nomatch h
theorem eqDL_refl : ∀ (n : Nat) (ds : List Dat), shpL n ds = true → eqDL ds ds = true
  | n, [], _ => by unfold eqDL; rfl
  | n, d :: ds, h => by
    unfold shpL at h
    rw [Bool.and_eq_true] at h
    unfold eqDL
    rw [eqD_refl n d h.1, eqDL_refl n ds h.2]; rfl
end
theorem shpL_append (n : Nat) : ∀ {ds es : List Dat}, shpL n ds = true → shpL n es = true → shpL n (ds ++ es) = true
  | [], es, _, h => h
  | d :: ds, es, h, h' => by
    unfold shpL at h
    rw [Bool.and_eq_true] at h
    rw [List.cons_append]
    unfold shpL
    rw [h.1, shpL_append n h.2 h']; rfl
mutual
theorem shp_up {n m : Nat} (h : n ≤ m) : ∀ {d : Dat}, shp n d = true → shp m d = true
  | .non, _ => by unfold shp; rfl
  | .bl b, _ => by unfold shp; rfl
  | .int i, _ => by unfold shp; rfl
  | .str x, hd => by unfold shp at hd ⊢; exact hd
  | .tup ds, hd => by
    match n, m, h, hd with
    | 0, _, _, hd => unfold shp at hd; exact nomatch hd
    | n + 1, m + 1, h, hd => unfold shp at hd ⊢; exact shpL_up (Nat.le_of_succ_le_succ h) hd
  | .lst ds, hd => by
    match n, m, h, hd with
    | 0, _, _, hd => unfold shp at hd; exact nomatch hd
    | n + 1, m + 1, h, hd => unfold shp at hd ⊢; exact shpL_up (Nat.le_of_succ_le_succ h) hd
  | .dic ks, hd => by
    match n, hd with
    | 0, hd => unfold shp at hd; exact nomatch hd
    | n + 1, hd => unfold shp at hd; exact nomatch hd
theorem shpL_up {n m : Nat} (h : n ≤ m) : ∀ {ds : List Dat}, shpL n ds = true → shpL m ds = true
  | [], _ => by unfold shpL; rfl
  | d :: ds, hd => by
    unfold shpL at hd ⊢
    rw [Bool.and_eq_true] at hd ⊢
    exact ⟨shp_up h hd.1, shpL_up h hd.2⟩
end
theorem shpL_ints (n : Nat) : ∀ l : List Int, shpL n (l.map Dat.int) = true
  | [] => by unfold shpL; rfl
  | i :: l => by
    rw [List.map_cons]
    unfold shpL
    rw [shpL_ints n l]
    cases n <;> rfl
theorem ixN_nat {n j : Nat} (h : j < n) : ixN n (j : Int) = some j := by
  unfold ixN
  simp [h]
theorem at_end {α : Type} {f : α → Dat} {xs : List α} (h : xs ≠ []) : ∃ x ∈ xs, atI (xs.map f) (-1) = some (f x) := by
  have hl : 0 < xs.length := List.length_pos_iff.mpr h
  refine ⟨xs[xs.length - 1], List.getElem_mem _, ?_⟩
  unfold atI ixN
  rw [if_neg (by decide), if_pos (by rw [List.length_map]; omega)]
  have : ((-1 : Int) + ((xs.map f).length : Int)).toNat = xs.length - 1 := by rw [List.length_map]; omega
  rw [this]
  show (xs.map f)[xs.length - 1]? = _
  rw [List.getElem?_map, List.getElem?_eq_getElem (by omega)]; rfl
theorem at_first {α : Type} {f : α → Dat} {xs : List α} (h : xs ≠ []) : ∃ x ∈ xs, atI (xs.map f) 0 = some (f x) := by
  match xs, h with
  | x :: xs, _ => exact ⟨x, by simp, at_mapI (j := 0) rfl rfl⟩
theorem eqD_ints (l m : List Int) : eqD (.lst (l.map Dat.int)) (.lst (m.map Dat.int)) = decide (l = m) := by
  unfold eqD
  induction l generalizing m with
  | nil => cases m with
    | nil => unfold eqDL; simp
    | cons b m => rw [List.map_cons]; simp [eqDL]
  | cons a l ih => cases m with
    | nil => rw [List.map_cons]; simp [eqDL]
    | cons b m =>
      rw [List.map_cons, List.map_cons]
      unfold eqDL
      rw [ih]
      have : eqD (.int a) (.int b) = (a == b) := by unfold eqD; rfl
      rw [this, Bool.eq_iff_iff]
      simp
theorem own_ind {k : Nat} {all : List Dat} {g : DG} {t : DT} {a : DS} {κ : DEnds} (I : List Sl → Prop) (fin : ∀ ρ, I ρ → κ.nx ρ) : ∀ (ds : List Dat),
    (∀ d ∈ ds, ∀ (ρ : List Sl) (N : List Sl → Prop), I ρ → (∀ ρ', I ρ' → N ρ') → g (.v d) ρ (fun ρ1 => ρ1[k]? = some (.ow all) ∧ t ρ1 (fun c => if c = true then a { κ with nx := fun _ => False, ct := fun _ => False, bk := fun _ => False } ρ1 else N ρ1) (fun nm => κ.ex nm ρ1))) → ∀ {ρ : List Sl}, I ρ → sOwnL k all g t a κ ds ρ
  | [], _, ρ, h => fin ρ h
  | d :: ds, step, ρ, h => step d (by simp) ρ _ h fun ρ' h' => own_ind I fin ds (fun e he => step e (List.mem_cons_of_mem _ he)) h'
theorem cutD_drop (ds : List Dat) {j : Nat} (hj : j ≤ ds.length) : cutD ds (some (j : Int)) none = ds.drop j := by
  unfold cutD
  rw [HT.sIx_none, HT.sIx_nat, Nat.min_eq_left hj]
  exact List.take_of_length_le (by rw [List.length_drop]; omega)
theorem nine {a b c d e f g h i : Dat} {n : Int} {P : Dat → Prop} (h0 : P a) (h1 : P b) (h2 : P c) (h3 : P d) (h4 : P e) (h5 : P f) (h6 : P g) (h7 : P h) (h8 : P i) : onS (atI [a, b, c, d, e, f, g, h, i] (n % 9)) P := by
  have : ∃ k : Nat, k < 9 ∧ n % 9 = (k : Int) := ⟨(n % 9).toNat, by omega, by omega⟩
  obtain ⟨k, hk, e⟩ := this
  rw [e]
  match k, hk with
  | 0, _ => exact onS_some rfl h0
  | 1, _ => exact onS_some rfl h1
  | 2, _ => exact onS_some rfl h2
  | 3, _ => exact onS_some rfl h3
  | 4, _ => exact onS_some rfl h4
  | 5, _ => exact onS_some rfl h5
  | 6, _ => exact onS_some rfl h6
  | 7, _ => exact onS_some rfl h7
  | 8, _ => exact onS_some rfl h8
end DL
/-! corners by sorting and walking -/
namespace Hull
open DL PySem PySem.Spec PyProof.Rows L2
instance (p q : Pt) : Decidable (LtP p q) := by unfold LtP; infer_instance
theorem ltp_irr (p : Pt) : ¬ LtP p p := by unfold LtP; omega
theorem ltp_tr {p q r : Pt} (h : LtP p q) (h' : LtP q r) : LtP p r := by unfold LtP at *; omega
theorem ltp_tot {p q : Pt} (h : p ≠ q) : LtP p q ∨ LtP q p := by
  unfold LtP
  by_cases h1 : p.1 = q.1
  · have : p.2 ≠ q.2 := fun e => h (Prod.ext h1 e)
    omega
  · omega
def ins (p : Pt) : List Pt → List Pt
  | [] => [p]
  | q :: r => if p = q then q :: r else if LtP p q then p :: q :: r else q :: ins p r
def srt (ps : List Pt) : List Pt := ps.foldr ins []
theorem mem_ins (p x : Pt) : ∀ l : List Pt, x ∈ ins p l ↔ x = p ∨ x ∈ l
  | [] => by simp [ins]
  | q :: r => by
    unfold ins
    split
    · rename_i e; subst e; simp
    · split
      · simp
      · rw [List.mem_cons, mem_ins p x r, List.mem_cons]
        constructor
        · rintro (h | h | h) <;> simp [h]
        · rintro (h | h | h) <;> simp [h]
theorem pw_ins (p : Pt) : ∀ l : List Pt, l.Pairwise LtP → (ins p l).Pairwise LtP
  | [], _ => by simp [ins]
  | q :: r, h => by
    rw [List.pairwise_cons] at h
    unfold ins
    split
    · exact List.pairwise_cons.mpr h
    · rename_i ne
      split
      · rename_i lt
        refine List.pairwise_cons.mpr ⟨fun x hx => ?_, List.pairwise_cons.mpr h⟩
        rcases List.mem_cons.mp hx with rfl | hx
        · exact lt
        · exact ltp_tr lt (h.1 x hx)
      · rename_i nl
        refine List.pairwise_cons.mpr ⟨fun x hx => ?_, pw_ins p r h.2⟩
        rcases (mem_ins p x r).mp hx with rfl | hx
        · exact (ltp_tot ne).resolve_left nl
        · exact h.1 x hx
theorem mem_srt (ps : List Pt) (x : Pt) : x ∈ srt ps ↔ x ∈ ps := by
  unfold srt
  induction ps with
  | nil => simp
  | cons p ps ih => rw [List.foldr_cons, mem_ins, ih, List.mem_cons]
theorem pw_srt (ps : List Pt) : (srt ps).Pairwise LtP := by
  unfold srt
  induction ps with
  | nil => simp
  | cons p ps ih => rw [List.foldr_cons]; exact pw_ins p _ ih
theorem pw_uniq : ∀ {l m : List Pt}, l.Pairwise LtP → m.Pairwise LtP → (∀ x, x ∈ l ↔ x ∈ m) → l = m
  | [], [], _, _, _ => rfl
  | [], q :: m, _, _, h => absurd ((h q).mpr (by simp)) (by simp)
  | p :: l, [], _, _, h => absurd ((h p).mp (by simp)) (by simp)
  | p :: l, q :: m, hl, hm, h => by
    rw [List.pairwise_cons] at hl hm
    have e : p = q := by
      have h1 := (h p).mp (by simp)
      have h2 := (h q).mpr (by simp)
      rcases List.mem_cons.mp h1 with e | h1
      · exact e
      · rcases List.mem_cons.mp h2 with e | h2
        · exact e.symm
        · exact absurd (ltp_tr (hl.1 q h2) (hm.1 p h1)) (ltp_irr p)
    subst e
    rw [pw_uniq hl.2 hm.2 fun x => ?_]
    constructor
    · intro hx
      rcases List.mem_cons.mp ((h x).mp (List.mem_cons_of_mem _ hx)) with e | hx'
      · subst e; exact absurd (hl.1 x hx) (ltp_irr x)
      · exact hx'
    · intro hx
      rcases List.mem_cons.mp ((h x).mpr (List.mem_cons_of_mem _ hx)) with e | hx'
      · subst e; exact absurd (hm.1 x hx) (ltp_irr x)
      · exact hx'
theorem srt_uniq {L ps : List Pt} (h : L.Pairwise LtP) (hm : ∀ p, p ∈ L ↔ p ∈ ps) : L = srt ps := pw_uniq h (pw_srt ps) fun x => (hm x).trans (mem_srt ps x).symm
theorem srt_congr {ps qs : List Pt} (h : ∀ p, p ∈ ps ↔ p ∈ qs) : srt ps = srt qs := srt_uniq (pw_srt ps) fun p => (mem_srt ps p).trans (h p)
theorem ins_len (p : Pt) : ∀ l : List Pt, (ins p l).length ≤ l.length + 1
  | [] => by simp [ins]
  | q :: r => by
    unfold ins
    split
    · simp
    · split
      · simp
      · have := ins_len p r
        simp only [List.length_cons]; omega
theorem srt_len (ps : List Pt) : (srt ps).length ≤ ps.length := by
  unfold srt
  induction ps with
  | nil => simp
  | cons p ps ih =>
    rw [List.foldr_cons]
    have := ins_len p (ps.foldr ins [])
    rw [List.length_cons]; omega
/-- take away from the top while the turn is not to the left -/
def popd : List Pt → Pt → List Pt
  | b :: a :: r, p => if span a b p ≤ 0 then popd (a :: r) p else b :: a :: r
  | s, _ => s
def push (s : List Pt) (p : Pt) : List Pt := p :: popd s p
def stk (ps : List Pt) : List Pt := ps.foldl push []
def half (ps : List Pt) : List Pt := (stk ps).reverse
def hull (ps : List Pt) : List Pt := if (srt ps).length = 1 then srt ps else (half (srt ps)).dropLast ++ (half (srt ps).reverse).dropLast
theorem popd_mem (p : Pt) : ∀ (s : List Pt), ∀ x ∈ popd s p, x ∈ s
  | [], x, h => h
  | [a], x, h => h
  | b :: a :: r, x, h => by
    unfold popd at h
    split at h
    · exact List.mem_cons_of_mem _ (popd_mem p (a :: r) x h)
    · exact h
theorem popd_len (p : Pt) : ∀ (s : List Pt), (popd s p).length ≤ s.length
  | [] => Nat.le_refl _
  | [a] => Nat.le_refl _
  | b :: a :: r => by
    unfold popd
    split
    · have := popd_len p (a :: r)
      simp only [List.length_cons] at *; omega
    · exact Nat.le_refl _
theorem stk_snoc (ps : List Pt) (p : Pt) : stk (ps ++ [p]) = push (stk ps) p := by unfold stk; rw [List.foldl_append]; rfl
theorem stk_take {ps : List Pt} {i : Nat} {p : Pt} (h : ps[i]? = some p) : stk (ps.take (i + 1)) = push (stk (ps.take i)) p := by
  rw [List.take_add_one, h]; exact stk_snoc _ p
theorem foldl_push (P : Pt → Prop) : ∀ (ps s : List Pt), (∀ x ∈ s, P x) → (∀ x ∈ ps, P x) → (∀ x ∈ ps.foldl push s, P x) ∧ (ps.foldl push s).length ≤ s.length + ps.length
  | [], s, hs, _ => ⟨hs, by simp⟩
  | p :: ps, s, hs, hp => by
    have h := foldl_push P ps (push s p) (fun x hx => by
      rcases List.mem_cons.mp hx with rfl | hx
      · exact hp _ (by simp)
      · exact hs x (popd_mem p s x hx)) (fun x hx => hp x (by simp [hx]))
    refine ⟨h.1, ?_⟩
    have h2 := popd_len p s
    have h3 : (push s p).length = (popd s p).length + 1 := rfl
    have := h.2
    rw [List.foldl_cons, List.length_cons]; omega
theorem half_all {P : Pt → Prop} {ps : List Pt} (h : ∀ x ∈ ps, P x) : (∀ x ∈ half ps, P x) ∧ (half ps).length ≤ ps.length := by
  have := foldl_push P ps [] (by simp) h
  unfold half
  refine ⟨fun x hx => this.1 x (List.mem_reverse.mp hx), ?_⟩
  rw [List.length_reverse]
  have h2 := this.2
  simp only [List.length_nil, Nat.zero_add] at h2
  exact h2
theorem hull_all {P : Pt → Prop} {ps : List Pt} (h : ∀ x ∈ ps, P x) : (∀ x ∈ hull ps, P x) ∧ (hull ps).length ≤ 2 * ps.length := by
  have hs : ∀ x ∈ srt ps, P x := fun x hx => h x ((mem_srt ps x).mp hx)
  have h1 := half_all hs
  have h2 := half_all (P := P) (ps := (srt ps).reverse) fun x hx => hs x (List.mem_reverse.mp hx)
  have hl := srt_len ps
  unfold hull
  split
  · exact ⟨hs, by omega⟩
  · refine ⟨fun x hx => ?_, ?_⟩
    · rcases List.mem_append.mp hx with hx | hx
      · exact h1.1 x (List.dropLast_subset _ hx)
      · exact h2.1 x (List.dropLast_subset _ hx)
    · rw [List.length_append, List.length_dropLast, List.length_dropLast]
      have := h1.2
      have := h2.2
      rw [List.length_reverse] at this
      omega
theorem hull_congr {ps qs : List Pt} (h : ∀ p, p ∈ ps ↔ p ∈ qs) : hull ps = hull qs := by unfold hull; rw [srt_congr h]
theorem hull_nil : hull [] = [] := rfl
/-! places of a stk -/
theorem at_top {b : Pt} {r : List Pt} : atI ((b :: r).reverse.map pt) (-1) = some (pt b) := by
  rw [List.reverse_cons, List.map_append]
  unfold atI ixN
  rw [if_neg (by decide), if_pos (by simp; omega)]
  have : ((-1 : Int) + ((List.map pt r.reverse ++ List.map pt [b]).length : Int)).toNat = r.length := by simp; omega
  rw [this]
  simp
theorem at_next {a b : Pt} {r : List Pt} : atI ((b :: a :: r).reverse.map pt) (-2) = some (pt a) := by
  rw [List.reverse_cons, List.reverse_cons, List.map_append, List.map_append]
  unfold atI ixN
  rw [if_neg (by decide), if_pos (by simp; omega)]
  have : ((-2 : Int) + ((List.map pt r.reverse ++ List.map pt [a] ++ List.map pt [b]).length : Int)).toNat = r.length := by simp; omega
  rw [this]
  simp
theorem pop_at {b : Pt} {r : List Pt} : ((b :: r).reverse.map pt)[((b :: r).reverse.map pt).length - 1]? = some (pt b) := by
  rw [List.reverse_cons, List.map_append]; simp
theorem pop_rest {b : Pt} {r : List Pt} : ((b :: r).reverse.map pt).dropLast = r.reverse.map pt := by
  rw [List.reverse_cons, List.map_append]; simp
theorem push_rest {p : Pt} {r : List Pt} : r.reverse.map pt ++ [pt p] = (p :: r).reverse.map pt := by
  rw [List.reverse_cons, List.map_append]; rfl
theorem cut_last (ps : List Pt) : DL.cutD (ps.map pt) none (some (-1)) = ps.dropLast.map pt := by
  unfold DL.cutD HT.sIx
  have : ((-1 : Int) + ((ps.map pt).length : Int)).toNat = ps.length - 1 := by rw [List.length_map]; omega
  show ((ps.map pt).drop 0).take ((if (-1 : Int) < 0 then (-1 + ((ps.map pt).length : Int)).toNat else _) - 0) = _
  rw [if_pos (by decide), this, List.drop_zero, Nat.sub_zero, List.dropLast_eq_take, List.map_take]
end Hull
/-! corners by sorting and walking: what they are -/
namespace Hull
open DL PySem PySem.Spec PyProof.Rows L2
def cr (d e : Pt) : Int := d.1 * e.2 - d.2 * e.1
def LP (d : Pt) : Prop := 0 < d.1 ∨ (d.1 = 0 ∧ 0 < d.2)
def LP0 (d : Pt) : Prop := 0 < d.1 ∨ (d.1 = 0 ∧ 0 ≤ d.2)
def sb (p q : Pt) : Pt := (p.1 - q.1, p.2 - q.2)
theorem lp_of {p q : Pt} (h : LtP p q) : LP (sb q p) := by unfold LP sb; unfold LtP at h; dsimp only; omega
theorem lp0_of {p q : Pt} (h : p = q ∨ LtP p q) : LP0 (sb q p) := by
  unfold LP0 sb
  rcases h with rfl | h
  · dsimp only; omega
  · unfold LtP at h; dsimp only; omega
theorem LP.to0 {d : Pt} (h : LP d) : LP0 d := by unfold LP at h; unfold LP0; omega
/-- slopes that do not fall, from the first by the second to the third -/
theorem cr_trans {d e f : Pt} (he : LP e) (hd : LP0 d) (hf : LP0 f) (h1 : 0 ≤ cr d e) (h2 : 0 ≤ cr e f) : 0 ≤ cr d f := by
  have id : e.1 * cr d f = d.1 * cr e f + f.1 * cr d e := by unfold cr; grind
  rcases he with he | ⟨he, he2⟩
  · have hd0 : 0 ≤ d.1 := by unfold LP0 at hd; omega
    have hf0 : 0 ≤ f.1 := by unfold LP0 at hf; omega
    have : 0 ≤ e.1 * cr d f := by
      rw [id]; exact Int.add_nonneg (Int.mul_nonneg hd0 h2) (Int.mul_nonneg hf0 h1)
    exact Int.nonneg_of_mul_nonneg_right this he
  · have hf0 : 0 ≤ f.1 := by unfold LP0 at hf; omega
    have hx : f.1 = 0 := by
      unfold cr at h2
      rw [he, Int.zero_mul, Int.zero_sub] at h2
      by_cases z : f.1 = 0
      · exact z
      · have := Int.mul_pos he2 (show 0 < f.1 by omega)
        omega
    have hf1 : 0 ≤ f.2 := by unfold LP0 at hf; omega
    have hd0 : 0 ≤ d.1 := by unfold LP0 at hd; omega
    unfold cr
    rw [hx, Int.mul_zero, Int.sub_zero]
    exact Int.mul_nonneg hd0 hf1
/-- along one line, farther on -/
theorem par_pos {d e f : Pt} (hd : LP d) (he : LP e) (h : cr d e = 0) (hf : 0 < cr d f) : 0 < cr e f := by
  rcases hd with hd | ⟨hd, hd2⟩
  · have id : d.1 * cr e f = e.1 * cr d f := by unfold cr at *; grind
    have he1 : 0 < e.1 := by
      rcases he with he | ⟨he, he2⟩
      · exact he
      · unfold cr at h
        rw [he, Int.mul_zero, Int.sub_zero] at h
        have := Int.mul_pos hd he2
        omega
    have : 0 < d.1 * cr e f := by rw [id]; exact Int.mul_pos he1 hf
    exact Int.pos_of_mul_pos_right this hd
  · have hex : e.1 = 0 := by
      unfold cr at h
      rw [hd, Int.zero_mul, Int.zero_sub] at h
      have h : d.2 * e.1 = 0 := by omega
      rcases Int.mul_eq_zero.mp h with z | z
      · omega
      · exact z
    have he2 : 0 < e.2 := by unfold LP at he; omega
    have id : d.2 * cr e f = e.2 * cr d f := by unfold cr; rw [hex, hd]; grind
    have : 0 < d.2 * cr e f := by rw [id]; exact Int.mul_pos he2 hf
    exact Int.pos_of_mul_pos_right this hd2
theorem span_cr (a b c : Pt) : span a b c = cr (sb b a) (sb c a) := rfl
theorem span_cr2 (a b c : Pt) : span a b c = cr (sb b a) (sb c b) := by unfold span cr sb; grind
theorem span_self1 (a b : Pt) : span a b a = 0 := by unfold span; grind
theorem span_self2 (a b : Pt) : span a b b = 0 := by unfold span; grind
theorem span_self3 (a b : Pt) : span a a b = 0 := by unfold span; grind
theorem span_rot (a b c : Pt) : span a b c = span b c a := by unfold span; grind
theorem span_swap (a b c : Pt) : span a b c = - span b a c := by unfold span; grind
theorem span_swap2 (a b c : Pt) : span a b c = - span a c b := by unfold span; grind
/-! ### a stack, the top ahead -/
def RLft (S : Pt → Prop) : List Pt → Prop
  | b :: a :: r => (∀ p, S p → 0 ≤ span a b p) ∧ RLft S (a :: r)
  | _ => True
def RTrn : List Pt → Prop
  | c :: b :: a :: r => 0 < span a b c ∧ RTrn (b :: a :: r)
  | _ => True
structure RCh (S : Pt → Prop) (s : List Pt) : Prop where
  so : s.Pairwise fun x y => LtP y x
  lf : RLft S s
  tr : RTrn s
  mem : ∀ p ∈ s, S p
theorem RTrn.tail {b : Pt} {s : List Pt} (h : RTrn (b :: s)) : RTrn s := by
  match s, h with
  | [], _ => trivial
  | [_], _ => trivial
  | _ :: _ :: _, h => exact h.2
theorem RLft.tail {S : Pt → Prop} {b : Pt} {s : List Pt} (h : RLft S (b :: s)) : RLft S s := by
  match s, h with
  | [], _ => trivial
  | _ :: _, h => exact h.2
theorem RCh.tail {S : Pt → Prop} {b : Pt} {s : List Pt} (h : RCh S (b :: s)) : RCh S s :=
  ⟨(List.pairwise_cons.mp h.so).2, h.lf.tail, h.tr.tail, fun p hp => h.mem p (List.mem_cons_of_mem _ hp)⟩
/-- all edges have on their left what the top edge has there -/
theorem lft_all {S : Pt → Prop} {p : Pt} : ∀ (a b : Pt) (r : List Pt), RCh S (b :: a :: r) → LtP b p → 0 ≤ span a b p → RLft (fun q => S q ∨ q = p) (b :: a :: r)
  | a, b, [], h, hp, h1 => ⟨fun q hq => by
      rcases hq with hq | rfl
      · exact h.lf.1 q hq
      · exact h1, trivial⟩
  | a, b, z :: r, h, hp, h1 => by
    have hs := List.pairwise_cons.mp h.so
    have hs2 := List.pairwise_cons.mp hs.2
    have ab : LtP a b := hs.1 a (by simp)
    have za : LtP z a := hs2.1 z (by simp)
    have t : 0 < span z a b := h.tr.1
    rw [span_cr2] at t h1
    have d : 0 ≤ cr (sb a z) (sb p b) := cr_trans (lp_of ab) (lp_of za).to0 (lp_of hp).to0 (Int.le_of_lt t) h1
    have e : 0 ≤ span z a p := by
      rw [span_cr2]
      have : cr (sb a z) (sb p a) = cr (sb a z) (sb b a) + cr (sb a z) (sb p b) := by unfold cr sb; grind
      omega
    refine ⟨fun q hq => ?_, lft_all z a r h.tail (ltp_tr ab hp) e⟩
    rcases hq with hq | rfl
    · exact h.lf.1 q hq
    · rw [span_cr2]; exact h1
/-- the stack when one more point, farther on, is put to it -/
theorem push_ch {S : Pt → Prop} {p : Pt} (hp : ∀ q, S q → LtP q p) : ∀ (s : List Pt), s ≠ [] → RCh S s → (∀ b r, s = b :: r → ∀ q, S q → (q = b ∨ LtP b q) → 0 ≤ span b p q) → (∀ b, s = [b] → ∀ q, S q → q = b ∨ LtP b q) → (∀ q, S q → ∃ b ∈ s, q = b ∨ LtP b q) → RCh (fun q => S q ∨ q = p) (p :: popd s p) ∧ popd s p ≠ [] ∧ (popd s p).getLast? = s.getLast?
  | [], h, _, _, _, _ => absurd rfl h
  | [b], _, h, inv, bot, _ => by
    refine ⟨⟨?_, ?_, trivial, ?_⟩, by simp [popd], rfl⟩
    · show List.Pairwise _ [p, b]
      rw [List.pairwise_cons]
      exact ⟨fun q hq => by rw [List.mem_singleton.mp hq]; exact hp b (h.mem b (by simp)), by simp⟩
    · refine ⟨fun q hq => ?_, trivial⟩
      rcases hq with hq | rfl
      · exact inv b [] rfl q hq (bot b rfl q hq)
      · rw [span_self2]; exact Int.le_refl _
    · intro q hq
      rcases List.mem_cons.mp hq with rfl | hq
      · exact .inr rfl
      · exact .inl (h.mem q hq)
  | b :: a :: r, _, h, inv, bot, low => by
    have hs := List.pairwise_cons.mp h.so
    have ab : LtP a b := hs.1 a (by simp)
    have bp := hp b (h.mem b (by simp))
    have ap := hp a (h.mem a (by simp))
    by_cases c : span a b p ≤ 0
    · have e : popd (b :: a :: r) p = popd (a :: r) p := by
        conv => lhs; unfold popd
        rw [if_pos c]
      rw [e]
      have inv' : ∀ b' r', a :: r = b' :: r' → ∀ q, S q → (q = b' ∨ LtP b' q) → 0 ≤ span b' p q := by
        intro b' r' eb q hq hb
        injection eb with eb _
        subst eb
        have hl := h.lf.1 q hq
        by_cases hqb : q = b ∨ LtP b q
        · have i1 := inv b (a :: r) rfl q hq hqb
          have id : span a p q = cr (sb b a) (sb q b) + cr (sb p b) (sb b a) + cr (sb p b) (sb q b) := by unfold span cr sb; grind
          rw [span_cr2] at hl c
          have c2 : cr (sb p b) (sb b a) = - cr (sb b a) (sb p b) := by unfold cr; grind
          have i2 : span b p q = cr (sb p b) (sb q b) := rfl
          omega
        · have qb : LtP q b := (ltp_tot fun e => hqb (.inl e)).resolve_right fun e => hqb (.inr e)
          refine cr_trans (e := sb b a) (lp_of ab) (lp_of ap).to0 (lp0_of (hb.imp Eq.symm id)) ?_ hl
          have : cr (sb p a) (sb b a) = - span a b p := by unfold cr span sb; grind
          omega
      have bot' : ∀ b', a :: r = [b'] → ∀ q, S q → q = b' ∨ LtP b' q := by
        intro b' eb q hq
        injection eb with eb er
        subst eb er
        obtain ⟨x, hx, hxq⟩ := low q hq
        simp only [List.mem_cons, List.not_mem_nil, or_false] at hx
        rcases hx with rfl | rfl
        · right
          rcases hxq with rfl | hxq
          · exact ab
          · exact ltp_tr ab hxq
        · exact hxq
      have low' : ∀ q, S q → ∃ b' ∈ a :: r, q = b' ∨ LtP b' q := by
        intro q hq
        obtain ⟨x, hx, hxq⟩ := low q hq
        rcases List.mem_cons.mp hx with rfl | hx
        · refine ⟨a, by simp, .inr ?_⟩
          rcases hxq with rfl | hxq
          · exact ab
          · exact ltp_tr ab hxq
        · exact ⟨x, hx, hxq⟩
      have ih := push_ch hp (a :: r) (by simp) h.tail inv' bot' low'
      exact ⟨ih.1, ih.2.1, by rw [ih.2.2]; rfl⟩
    · have e : popd (b :: a :: r) p = b :: a :: r := by
        unfold popd; rw [if_neg c]
      rw [e]
      refine ⟨⟨?_, ⟨?_, ?_⟩, ⟨by omega, h.tr⟩, ?_⟩, by simp, rfl⟩
      · rw [List.pairwise_cons]
        exact ⟨fun q hq => hp q (h.mem q hq), h.so⟩
      · intro q hq
        rcases hq with hq | rfl
        · by_cases hqb : q = b ∨ LtP b q
          · exact inv b (a :: r) rfl q hq hqb
          · have qb : LtP q b := (ltp_tot fun e => hqb (.inl e)).resolve_right fun e => hqb (.inr e)
            have hl := h.lf.1 q hq
            have c1 : 0 ≤ cr (sb b q) (sb b a) := by
              have : cr (sb b q) (sb b a) = span a b q := by unfold cr span sb; grind
              omega
            have c2 : 0 ≤ cr (sb b a) (sb p b) := by rw [← span_cr2]; omega
            have := cr_trans (lp_of ab) (lp_of qb).to0 (lp_of bp).to0 c1 c2
            have id : span b p q = cr (sb b q) (sb p b) := by unfold cr span sb; grind
            omega
        · rw [span_self2]; exact Int.le_refl _
      · exact lft_all a b r h bp (by omega)
      · intro q hq
        rcases List.mem_cons.mp hq with rfl | hq
        · exact .inr rfl
        · exact .inl (h.mem q hq)
end Hull
/-! the chain of a sorted list; one alone -/
namespace Hull
open DL PySem PySem.Spec PyProof.Rows L2
theorem RLft.mono {S S' : Pt → Prop} (h : ∀ p, S' p → S p) : ∀ {s : List Pt}, RLft S s → RLft S' s
  | [], _ => trivial
  | [_], _ => trivial
  | _ :: a :: r, h1 => ⟨fun p hp => h1.1 p (h p hp), RLft.mono h h1.2⟩
theorem RCh.to {S S' : Pt → Prop} {s : List Pt} (h : RCh S s) (hs : ∀ p, S' p → S p) (hm : ∀ p ∈ s, S' p) : RCh S' s := ⟨h.so, h.lf.mono hs, h.tr, hm⟩
theorem last_le : ∀ {x : Pt} {t : List Pt} {y : Pt}, (x :: t).Pairwise (fun x y => LtP y x) → (x :: t).getLast? = some y → y = x ∨ LtP y x
  | x, t, y, h, e => by
    have hy := List.mem_of_getLast? e
    rcases List.mem_cons.mp hy with rfl | hy
    · exact .inl rfl
    · exact .inr ((List.pairwise_cons.mp h).1 y hy)
theorem last_all : ∀ {t : List Pt} {y : Pt}, t.Pairwise (fun x y => LtP y x) → t.getLast? = some y → ∀ q ∈ t, q = y ∨ LtP y q
  | [], y, _, e, q, hq => absurd hq (by simp)
  | [x], y, _, e, q, hq => by
    simp only [List.getLast?_singleton, Option.some.injEq] at e
    rw [List.mem_singleton.mp hq]
    exact .inl e
  | x :: x' :: t, y, h, e, q, hq => by
    rw [List.getLast?_cons_cons] at e
    have h' := List.pairwise_cons.mp h
    rcases List.mem_cons.mp hq with rfl | hq
    · exact .inr (h'.1 y (List.mem_of_getLast? e))
    · exact last_all h'.2 e q hq
/-- the last of a sorted list is its greatest -/
theorem srtd_last : ∀ {t : List Pt} {y : Pt}, t.Pairwise LtP → t.getLast? = some y → ∀ q ∈ t, q = y ∨ LtP q y
  | [], y, _, e, q, hq => absurd hq (by simp)
  | [x], y, _, e, q, hq => by
    simp only [List.getLast?_singleton, Option.some.injEq] at e
    rw [List.mem_singleton.mp hq]
    exact .inl e
  | x :: x' :: t, y, h, e, q, hq => by
    rw [List.getLast?_cons_cons] at e
    have h' := List.pairwise_cons.mp h
    rcases List.mem_cons.mp hq with rfl | hq
    · exact .inr (h'.1 y (List.mem_of_getLast? e))
    · exact srtd_last h'.2 e q hq
theorem srtd_head {t : List Pt} {y : Pt} (h : t.Pairwise LtP) (e : t.head? = some y) : ∀ q ∈ t, q = y ∨ LtP y q := by
  match t, e with
  | x :: t, e =>
    cases e
    intro q hq
    rcases List.mem_cons.mp hq with rfl | hq
    · exact .inl rfl
    · exact .inr ((List.pairwise_cons.mp h).1 q hq)
theorem stk_ch (n : Nat) : ∀ L : List Pt, L.length = n → L ≠ [] → L.Pairwise LtP → RCh (· ∈ L) (stk L) ∧ (stk L).head? = L.getLast? ∧ (stk L).getLast? = L.head? := by
  induction n with
  | zero => intro L hl h0; exact absurd (List.length_eq_zero_iff.mp hl) h0
  | succ n ih =>
    intro L hl h0 hp
    obtain ⟨M, p, rfl⟩ : ∃ M p, L = M ++ [p] := ⟨_, _, (List.dropLast_concat_getLast h0).symm⟩
    rw [List.length_append, List.length_singleton] at hl
    rw [stk_snoc]
    by_cases hM : M = []
    · subst hM
      refine ⟨⟨by simp [push, popd, stk], trivial, trivial, by simp [push, popd, stk]⟩, rfl, rfl⟩
    · obtain ⟨i1, i2, i3⟩ := ih M (by omega) hM (List.pairwise_append.mp hp).1
      have hMp : ∀ q, q ∈ M → LtP q p := fun q hq => (List.pairwise_append.mp hp).2.2 q hq p (by simp)
      have hs0 : stk M ≠ [] := fun z => by
        rw [z] at i2
        have := List.getLast?_eq_none_iff.mp i2.symm
        exact hM this
      have sM := (List.pairwise_append.mp hp).1
      obtain ⟨c, hc⟩ : ∃ c, M.head? = some c := by
        cases M with
        | nil => exact absurd rfl hM
        | cons x t => exact ⟨x, rfl⟩
      have low := srtd_head sM hc
      have key := push_ch (S := (· ∈ M)) hMp (stk M) hs0 i1 (fun b r eb q hq hb => ?_) (fun b eb q hq => ?_) (fun q hq => ?_)
      · obtain ⟨k1, k2, k3⟩ := key
        refine ⟨?_, by simp [push], ?_⟩
        · refine k1.to (fun q hq => ?_) (fun q hq => ?_)
          · have hq : q ∈ M ++ [p] := hq
            rcases List.mem_append.mp hq with h | h
            · exact .inl h
            · exact .inr (List.mem_singleton.mp h)
          · rcases k1.mem q hq with h | h
            · exact List.mem_append_left _ h
            · exact List.mem_append_right _ (by rw [h]; simp)
        · unfold push
          obtain ⟨x, t, ext⟩ : ∃ x t, popd (stk M) p = x :: t := by
            cases h : popd (stk M) p with
            | nil => exact absurd h k2
            | cons x t => exact ⟨x, t, rfl⟩
          rw [ext, List.getLast?_cons_cons, ← ext, k3, i3, List.head?_append, hc]; rfl
      · rw [eb, List.head?_cons] at i2
        rcases srtd_last sM i2.symm q hq with rfl | h
        · rw [span_self1]; exact Int.le_refl _
        · rcases hb with rfl | hb
          · exact absurd h (ltp_irr q)
          · exact absurd (ltp_tr h hb) (ltp_irr q)
      · rw [eb, hc] at i3
        have : b = c := by simpa using i3
        rw [this]; exact low q hq
      · rw [hc] at i3
        exact ⟨c, List.mem_of_getLast? i3, low q hq⟩
/-- two chains cannot part -/
theorem part_no {S : Pt → Prop} {z b b' : Pt} {r : List Pt} (h : RCh S (z :: b :: r)) (hS : S b') (hz : LtP b' z) (lt : LtP b' b) (h0 : span b' z b ≥ 0) (hr : r ≠ []) : False := by
  match r, hr with
  | c :: r, _ =>
    have hs := List.pairwise_cons.mp h.so
    have bz : LtP b z := hs.1 b (by simp)
    have h1 := h.lf.1 b' hS
    have t := h.tr.1
    have l2 := h.lf.2.1 b' hS
    have e : cr (sb z b) (sb b b') = 0 := by
      have e1 : span b z b' = - cr (sb z b) (sb b b') := by unfold span cr sb; grind
      have e2 : span b' z b = cr (sb z b) (sb b b') := by unfold span cr sb; grind
      omega
    have f : 0 < cr (sb z b) (sb c b) := by
      have : cr (sb z b) (sb c b) = span c b z := by unfold span cr sb; grind
      omega
    have := par_pos (lp_of bz) (lp_of lt) e f
    have id : span c b b' = - cr (sb b b') (sb c b) := by unfold span cr sb; grind
    omega
theorem rch_uniq {S : Pt → Prop} : ∀ (z : Pt) (r r' : List Pt), RCh S (z :: r) → RCh S (z :: r') → (z :: r).getLast? = (z :: r').getLast? → r = r'
  | z, [], [], _, _, _ => rfl
  | z, [], b' :: r', h, h', e => by
    rw [List.getLast?_singleton, List.getLast?_cons_cons] at e
    have := (List.pairwise_cons.mp h'.so).1 z (List.mem_of_getLast? e.symm)
    exact absurd this (ltp_irr z)
  | z, b :: r, [], h, h', e => by
    rw [List.getLast?_singleton, List.getLast?_cons_cons] at e
    have := (List.pairwise_cons.mp h.so).1 z (List.mem_of_getLast? e)
    exact absurd this (ltp_irr z)
  | z, b :: r, b' :: r', h, h', e => by
    rw [List.getLast?_cons_cons, List.getLast?_cons_cons] at e
    have hb := h.mem b (by simp)
    have hb' := h'.mem b' (by simp)
    have bz := (List.pairwise_cons.mp h.so).1 b (by simp)
    have bz' := (List.pairwise_cons.mp h'.so).1 b' (by simp)
    have eb : b = b' := by
      by_cases hne : b = b'
      · exact hne
      · obtain ⟨y, hy⟩ : ∃ y, (b :: r).getLast? = some y := by
          cases hh : (b :: r).getLast? with
          | none => exact absurd (List.getLast?_eq_none_iff.mp hh) (by simp)
          | some y => exact ⟨y, rfl⟩
        have y1 := last_le h.tail.so hy
        have y2 := last_le h'.tail.so (e.symm.trans hy)
        rcases ltp_tot hne with lt | lt
        · refine (part_no h' hb bz lt (h.lf.1 b' hb') fun hr => ?_).elim
          subst hr
          have : b' = y := by rw [List.getLast?_singleton] at e; rw [hy] at e; exact (Option.some.inj e).symm
          subst this
          rcases y1 with rfl | y1
          · exact ltp_irr _ lt
          · exact ltp_irr _ (ltp_tr lt y1)
        · refine (part_no h hb' bz' lt (h'.lf.1 b hb) fun hr => ?_).elim
          subst hr
          have : b = y := by rw [List.getLast?_singleton] at hy; exact Option.some.inj hy
          subst this
          rcases y2 with rfl | y2
          · exact ltp_irr _ lt
          · exact ltp_irr _ (ltp_tr lt y2)
    subst eb
    rw [rch_uniq b r r' h.tail h'.tail e]
end Hull
/-! the corners: both chains -/
namespace Hull
open DL PySem PySem.Spec PyProof.Rows L2
def ng (p : Pt) : Pt := (-p.1, -p.2)
theorem ng_ng (p : Pt) : ng (ng p) = p := by unfold ng; simp
theorem ng_inj {p q : Pt} (h : ng p = ng q) : p = q := by rw [← ng_ng p, h, ng_ng]
theorem span_ng (a b c : Pt) : span (ng a) (ng b) (ng c) = span a b c := by unfold span ng; grind
theorem ltp_ng {p q : Pt} : LtP (ng p) (ng q) ↔ LtP q p := by unfold LtP ng; dsimp only; omega
theorem popd_ng (p : Pt) : ∀ s : List Pt, popd (s.map ng) (ng p) = (popd s p).map ng
  | [] => rfl
  | [_] => rfl
  | b :: a :: r => by
    have ih := popd_ng p (a :: r)
    show popd (ng b :: ng a :: r.map ng) (ng p) = (popd (b :: a :: r) p).map ng
    unfold popd
    rw [span_ng]
    split
    · exact ih
    · rfl
theorem fold_ng : ∀ (l s : List Pt), (l.map ng).foldl push (s.map ng) = (l.foldl push s).map ng
  | [], s => rfl
  | p :: l, s => by
    have : push (s.map ng) (ng p) = (push s p).map ng := by unfold push; rw [popd_ng]; rfl
    rw [List.map_cons, List.foldl_cons, List.foldl_cons, this, fold_ng l]
theorem stk_ng (l : List Pt) : stk (l.map ng) = (stk l).map ng := fold_ng l []
theorem map_ng_ng (l : List Pt) : (l.map ng).map ng = l := by
  rw [List.map_map]
  have : ng ∘ ng = id := funext ng_ng
  rw [this, List.map_id]
/-- the sorted list seen from the other side -/
def rv (L : List Pt) : List Pt := L.reverse.map ng
theorem mem_rv {L : List Pt} {p : Pt} : p ∈ rv L ↔ ng p ∈ L := by
  unfold rv
  rw [List.mem_map]
  constructor
  · rintro ⟨q, hq, rfl⟩
    rw [ng_ng]; exact List.mem_reverse.mp hq
  · intro h
    exact ⟨ng p, List.mem_reverse.mpr h, ng_ng p⟩
theorem pw_rv {L : List Pt} (h : L.Pairwise LtP) : (rv L).Pairwise LtP := by
  unfold rv
  rw [List.pairwise_map, List.pairwise_reverse]
  exact h.imp fun h => ltp_ng.mpr h
theorem rv_ne {L : List Pt} (h : L ≠ []) : rv L ≠ [] := by unfold rv; simpa using h
theorem rv_len (L : List Pt) : (rv L).length = L.length := by unfold rv; simp
theorem rv_last (L : List Pt) : (rv L).getLast? = L.head?.map ng := by unfold rv; simp
theorem rv_head (L : List Pt) : (rv L).head? = L.getLast?.map ng := by unfold rv; simp
/-- the corners by both chains -/
theorem hull_two (ps : List Pt) (h : (srt ps).length ≠ 1) : hull ps = (stk (srt ps)).tail.reverse ++ ((stk (rv (srt ps))).tail.map ng).reverse := by
  unfold hull half
  rw [if_neg h]
  have e : stk (srt ps).reverse = (stk (rv (srt ps))).map ng := by
    unfold rv; rw [stk_ng, map_ng_ng]
  rw [e, List.dropLast_reverse, List.dropLast_reverse, List.map_tail]
structure Two (L : List Pt) (a z : Pt) (r r' : List Pt) : Prop where
  so : L.Pairwise LtP
  az : LtP a z
  first : ∀ q ∈ L, q = a ∨ LtP a q
  last : ∀ q ∈ L, q = z ∨ LtP q z
  ma : a ∈ L
  mz : z ∈ L
  e : stk L = z :: r
  e' : stk (rv L) = ng a :: r'
  low : RCh (· ∈ L) (z :: r)
  upp : RCh (· ∈ rv L) (ng a :: r')
  bot : (z :: r).getLast? = some a
  bot' : (ng a :: r').getLast? = some (ng z)
theorem two_of {L : List Pt} (hp : L.Pairwise LtP) (h2 : 2 ≤ L.length) : ∃ a z r r', Two L a z r r' := by
  match L, h2 with
  | a :: b :: t, _ =>
    obtain ⟨z, hz⟩ : ∃ z, (a :: b :: t).getLast? = some z := by
      cases hh : (a :: b :: t).getLast? with
      | none => exact absurd (List.getLast?_eq_none_iff.mp hh) (by simp)
      | some y => exact ⟨y, rfl⟩
    obtain ⟨k1, k2, k3⟩ := stk_ch _ (a :: b :: t) rfl (by simp) hp
    obtain ⟨m1, m2, m3⟩ := stk_ch _ (rv (a :: b :: t)) rfl (rv_ne (by simp)) (pw_rv hp)
    rw [hz] at k2
    rw [rv_last] at m2
    rw [rv_head, hz] at m3
    generalize hs : stk (a :: b :: t) = s at *
    generalize hs' : stk (rv (a :: b :: t)) = s' at *
    have mz := List.mem_of_getLast? hz
    have az : LtP a z := by
      rw [List.getLast?_cons_cons] at hz
      exact (List.pairwise_cons.mp hp).1 z (List.mem_of_getLast? hz)
    match s, s', k2, m2 with
    | x :: r, y :: r', k2, m2 =>
      have ex : x = z := by simpa using k2
      have ey : y = ng a := by simpa using m2
      subst ex ey
      exact ⟨a, x, r, r', hp, az, srtd_head hp rfl, srtd_last hp hz, by simp, mz, hs, hs', k1, m1, k3, m3⟩
theorem Two.ne {L : List Pt} {a z : Pt} {r r' : List Pt} (h : Two L a z r r') : L.length ≠ 1 := fun e => by
  have h1 := h.ma
  have h2 := h.mz
  match L, e with
  | [x], _ =>
    rw [List.mem_singleton] at h1 h2
    have := h.az
    rw [h1, h2] at this
    exact ltp_irr x this
theorem mem_hull {ps : List Pt} {a z : Pt} {r r' : List Pt} (h : Two (srt ps) a z r r') (x : Pt) : x ∈ hull ps ↔ x ∈ z :: r ∨ ng x ∈ ng a :: r' := by
  rw [hull_two ps h.ne, h.e, h.e', List.mem_append, List.mem_reverse, List.mem_reverse, List.mem_map, List.tail_cons, List.tail_cons]
  have za : ng z ∈ r' := by
    have := List.mem_of_getLast? h.bot'
    rcases List.mem_cons.mp this with e | e
    · have e := ng_inj e
      have := h.az
      rw [e] at this
      exact absurd this (ltp_irr a)
    · exact e
  have ar : a ∈ r := by
    have := List.mem_of_getLast? h.bot
    rcases List.mem_cons.mp this with e | e
    · have := h.az
      rw [e] at this
      exact absurd this (ltp_irr z)
    · exact e
  constructor
  · rintro (hx | ⟨y, hy, rfl⟩)
    · exact .inl (List.mem_cons_of_mem _ hx)
    · exact .inr (by rw [ng_ng]; exact List.mem_cons_of_mem _ hy)
  · rintro (hx | hx)
    · rcases List.mem_cons.mp hx with rfl | hx
      · exact .inr ⟨ng x, za, ng_ng x⟩
      · exact .inl hx
    · rcases List.mem_cons.mp hx with e | hx
      · rw [ng_inj e]; exact .inl ar
      · exact .inr ⟨ng x, hx, ng_ng x⟩
theorem hull_mem {ps : List Pt} {x : Pt} (h : x ∈ hull ps) : x ∈ ps := (hull_all (P := (· ∈ ps)) fun _ h => h).1 x h
theorem hull_one {p : Pt} {ps : List Pt} (h : srt ps = [p]) : hull ps = [p] := by unfold hull; rw [h]; rfl
/-- points between the corners and all have the same corners -/
theorem hull_between {ps qs : List Pt} (h1 : ∀ p ∈ qs, p ∈ ps) (h2 : ∀ p ∈ hull ps, p ∈ qs) : hull qs = hull ps := by
  have sub : ∀ p ∈ srt qs, p ∈ srt ps := fun p hp => (mem_srt ps p).mpr (h1 p ((mem_srt qs p).mp hp))
  rcases Nat.lt_or_ge (srt ps).length 2 with hl | hl
  · match hs : srt ps, hl with
    | [], _ =>
      have : srt qs = [] := List.eq_nil_iff_forall_not_mem.mpr fun p hp => by have := sub p hp; rw [hs] at this; exact absurd this (by simp)
      unfold hull; rw [hs, this]
    | [p], _ =>
      have hq : p ∈ qs := h2 p (by rw [hull_one hs]; simp)
      have : srt qs = [p] := by
        refine (srt_uniq (L := [p]) (by simp) fun x => ?_).symm
        constructor
        · intro hx; rw [List.mem_singleton.mp hx]; exact hq
        · intro hx
          have := sub x ((mem_srt qs x).mpr hx)
          rw [hs] at this; exact this
      rw [hull_one hs, hull_one this]
  · obtain ⟨a, z, r, r', T⟩ := two_of (pw_srt ps) hl
    have ha : a ∈ srt qs := (mem_srt qs a).mpr (h2 a ((mem_hull T a).mpr (.inl (List.mem_of_getLast? T.bot))))
    have hz : z ∈ srt qs := (mem_srt qs z).mpr (h2 z ((mem_hull T z).mpr (.inl (by simp))))
    have hl' : 2 ≤ (srt qs).length := by
      match hh : srt qs, ha, hz with
      | [x], ha, hz =>
        rw [List.mem_singleton] at ha hz
        have := T.az
        rw [ha, hz] at this
        exact absurd this (ltp_irr x)
      | _ :: _ :: _, _, _ => simp
    obtain ⟨a2, z2, r2, r2', T2⟩ := two_of (pw_srt qs) hl'
    have ea : a2 = a := by
      rcases T2.first a ha with e | e
      · exact e.symm
      · rcases T.first a2 (sub a2 T2.ma) with e' | e'
        · exact e'
        · exact absurd (ltp_tr e e') (ltp_irr _)
    have ez : z2 = z := by
      rcases T2.last z hz with e | e
      · exact e.symm
      · rcases T.last z2 (sub z2 T2.mz) with e' | e'
        · exact e'
        · exact absurd (ltp_tr e e') (ltp_irr _)
    subst ea ez
    have er : r2 = r := rch_uniq (S := (· ∈ srt qs)) z2 r2 r T2.low (T.low.to sub fun p hp => (mem_srt qs p).mpr (h2 p ((mem_hull T p).mpr (.inl hp)))) (T2.bot.trans T.bot.symm)
    have er' : r2' = r' := rch_uniq (S := (· ∈ rv (srt qs))) (ng a2) r2' r' T2.upp (T.upp.to (fun p hp => mem_rv.mpr (sub _ (mem_rv.mp hp))) fun p hp => mem_rv.mpr ((mem_srt qs _).mpr (h2 _ ((mem_hull T _).mpr (.inr (by rw [ng_ng]; exact hp)))))) (T2.bot'.trans T.bot'.symm)
    rw [hull_two ps T.ne, hull_two qs T2.ne, T.e, T.e', T2.e, T2.e', er, er']
theorem hull_hull (ps : List Pt) : hull (hull ps) = hull ps := hull_between (fun _ h => hull_mem h) fun _ h => h
/-- an inner corner of a chain -/
theorem inner {S : Pt → Prop} : ∀ (t : Pt) (r : List Pt) (u : Pt), RCh S (t :: r) → u ∈ r → (t :: r).getLast? ≠ some u → ∃ t' s r', RCh S (t' :: u :: s :: r')
  | t, [], u, _, h, _ => absurd h (by simp)
  | t, v :: r, u, h, hu, hl => by
    rcases List.mem_cons.mp hu with rfl | hu
    · match r, hl with
      | [], hl => exact absurd (by simp) hl
      | s :: r, _ => exact ⟨t, s, r, h⟩
    · rw [List.getLast?_cons_cons] at hl
      exact inner v r u h.tail hu hl
theorem no_both {L : List Pt} {a z : Pt} {r r' : List Pt} (T : Two L a z r r') (u : Pt) (h1 : u ∈ r) (h2 : ng u ∈ r') : False := by
  have ua : u ≠ a := fun e => by
    subst e
    exact ltp_irr _ ((List.pairwise_cons.mp T.upp.so).1 _ h2)
  have uz : u ≠ z := fun e => by
    subst e
    exact ltp_irr _ ((List.pairwise_cons.mp T.low.so).1 _ h1)
  obtain ⟨t, s, l, R⟩ := inner z r u T.low h1 (by rw [T.bot]; exact fun e => ua (Option.some.inj e).symm)
  obtain ⟨t', s', l', R'⟩ := inner (ng a) r' (ng u) T.upp h2 (by rw [T.bot']; exact fun e => uz (ng_inj (Option.some.inj e)).symm)
  have su : LtP s u := (List.pairwise_cons.mp R.tail.so).1 s (by simp)
  have us' : LtP u (ng s') := by
    have := (List.pairwise_cons.mp R'.tail.so).1 s' (by simp)
    rw [← ng_ng s'] at this
    exact ltp_ng.mp this
  have mS' : ng s' ∈ L := mem_rv.mp (R'.mem s' (by simp))
  have ms := R.mem s (by simp)
  have mt := R.mem t (by simp)
  have f1 := R.tr.1
  have f2 := R.lf.2.1 (ng s') mS'
  have g : ∀ p ∈ L, 0 ≤ span (ng s') u p := fun p hp => by
    have := R'.lf.2.1 (ng p) (mem_rv.mpr (by rw [ng_ng]; exact hp))
    rw [← span_ng, ng_ng]; exact this
  have f3 := g s ms
  have f4 := g t mt
  have e0 : cr (sb u s) (sb (ng s') u) = 0 := by
    have e1 : span s u (ng s') = cr (sb u s) (sb (ng s') u) := span_cr2 _ _ _
    have e2 : span (ng s') u s = - cr (sb u s) (sb (ng s') u) := by unfold span cr sb; grind
    omega
  have e1 : 0 < cr (sb u s) (sb t u) := by rw [← span_cr2]; exact f1
  have := par_pos (lp_of su) (lp_of us') e0 e1
  have e2 : span (ng s') u t = - cr (sb (ng s') u) (sb t u) := by unfold span cr sb; grind
  omega
theorem so_nodup {s : List Pt} (h : s.Pairwise fun x y => LtP y x) : s.Nodup := h.imp fun hl e => by subst e; exact ltp_irr _ hl
theorem nodup_rev {l : List Pt} (h : l.Nodup) : l.reverse.Nodup := List.pairwise_reverse.mpr (List.Pairwise.imp (fun e => Ne.symm e) h)
theorem hull_nodup (ps : List Pt) : (hull ps).Nodup := by
  rcases Nat.lt_or_ge (srt ps).length 2 with hl | hl
  · match hs : srt ps, hl with
    | [], _ => unfold hull; rw [hs]; simp [half, stk]
    | [p], _ => rw [hull_one hs]; simp
  · obtain ⟨a, z, r, r', T⟩ := two_of (pw_srt ps) hl
    rw [hull_two ps T.ne, T.e, T.e', List.tail_cons, List.tail_cons]
    refine List.nodup_append.mpr ⟨nodup_rev (so_nodup T.low.tail.so), nodup_rev ?_, fun x hx y hy e => ?_⟩
    · refine List.Pairwise.map ng ?_ (so_nodup T.upp.tail.so)
      exact fun x y h e => h (ng_inj e)
    · subst e
      rw [List.mem_reverse] at hx hy
      obtain ⟨y, hy, e⟩ := List.mem_map.mp hy
      refine no_both T x hx ?_
      rw [← e, ng_ng]; exact hy
theorem nodup_len : ∀ {l m : List Pt}, l.Nodup → (∀ x ∈ l, x ∈ m) → l.length ≤ m.length
  | [], m, _, _ => Nat.zero_le _
  | x :: l, m, h, hs => by
    have hx := hs x (by simp)
    have h' := List.nodup_cons.mp h
    have := nodup_len (l := l) (m := m.erase x) h'.2 fun y hy => (List.mem_erase_of_ne (fun e => h'.1 (by rw [← e]; exact hy))).mpr (hs y (by simp [hy]))
    rw [List.length_erase_of_mem hx] at this
    have := List.length_pos_of_mem hx
    rw [List.length_cons]; omega
theorem hull_len (ps : List Pt) : (hull ps).length ≤ ps.length := nodup_len (hull_nodup ps) fun _ h => hull_mem h
theorem hull_ne {ps : List Pt} (h : ps ≠ []) : hull ps ≠ [] := by
  match ps, h with
  | p :: t, _ =>
    rcases Nat.lt_or_ge (srt (p :: t)).length 2 with hl | hl
    · match hs : srt (p :: t), hl with
      | [], _ => have := (mem_srt (p :: t) p).mpr (by simp); rw [hs] at this; exact absurd this (by simp)
      | [q], _ => rw [hull_one hs]; simp
    · obtain ⟨a, z, r, r', T⟩ := two_of (pw_srt (p :: t)) hl
      have := (mem_hull T z).mpr (.inl (by simp))
      exact List.ne_nil_of_mem this
end Hull
/-! a corner is a point at which some direction is least, alone -/
namespace Hull
open DL PySem PySem.Spec PyProof.Rows L2
def dt (g w : Pt) : Int := g.1 * w.1 + g.2 * w.2
def Ext (X : List Pt) (p : Pt) : Prop := p ∈ X ∧ ∃ g : Pt, ∀ q ∈ X, q ≠ p → 0 < dt g (sb q p)
/-- slopes that rise -/
theorem cr_lt {d e f : Pt} (hd : LP d) (he : LP e) (hf : LP f) (h1 : 0 < cr d e) (h2 : 0 < cr e f) : 0 < cr d f := by
  have id : e.1 * cr d f = d.1 * cr e f + f.1 * cr d e := by unfold cr; grind
  have hd0 : 0 ≤ d.1 := by unfold LP at hd; omega
  have hf0 : 0 ≤ f.1 := by unfold LP at hf; omega
  rcases he with he | ⟨he, he2⟩
  · have : 0 < e.1 * cr d f := by
      rw [id]
      have a1 := Int.mul_nonneg hd0 (Int.le_of_lt h2)
      have a2 := Int.mul_nonneg hf0 (Int.le_of_lt h1)
      by_cases z : d.1 = 0
      · by_cases z2 : f.1 = 0
        · exfalso
          unfold cr at h1
          rw [z, Int.zero_mul, Int.zero_sub] at h1
          have hd2 : 0 < d.2 := by unfold LP at hd; omega
          have := Int.mul_pos hd2 he
          omega
        · have := Int.mul_pos (show 0 < f.1 by omega) h1
          omega
      · have := Int.mul_pos (show 0 < d.1 by omega) h2
        omega
    exact Int.pos_of_mul_pos_right this he
  · exfalso
    unfold cr at h2
    rw [he, Int.zero_mul, Int.zero_sub] at h2
    have := Int.mul_nonneg (Int.le_of_lt he2) hf0
    omega
/-- a chain's edge over a point -/
theorem cover {S : Pt → Prop} : ∀ (z : Pt) (r : List Pt) (a p : Pt), RCh S (z :: r) → (z :: r).getLast? = some a → (p = a ∨ LtP a p) → (p = z ∨ LtP p z) → p ∉ z :: r → ∃ u v, LtP u p ∧ LtP p v ∧ (∀ q, S q → 0 ≤ span u v q) ∧ S u ∧ S v
  | z, [], a, p, h, e, h1, h2, hn => by
    rw [List.getLast?_singleton] at e
    have : z = a := Option.some.inj e
    subst this
    rcases h1 with rfl | h1
    · exact absurd (by simp) hn
    · rcases h2 with rfl | h2
      · exact absurd (by simp) hn
      · exact absurd (ltp_tr h1 h2) (ltp_irr _)
  | z, b :: r, a, p, h, e, h1, h2, hn => by
    have pz : LtP p z := by
      rcases h2 with rfl | h2
      · exact absurd (by simp) hn
      · exact h2
    have pb : p ≠ b := fun e => hn (by rw [e]; simp)
    rcases ltp_tot pb with lt | lt
    · rw [List.getLast?_cons_cons] at e
      exact cover b r a p h.tail e h1 (.inr lt) fun hm => hn (List.mem_cons_of_mem _ hm)
    · exact ⟨b, z, lt, pz, h.lf.1, h.mem b (by simp), h.mem z (by simp)⟩
theorem lp_cases {g : Pt} (h : g ≠ (0, 0)) : LP g ∨ LP (ng g) := by
  unfold LP ng
  dsimp only
  by_cases z : g.1 = 0
  · have : g.2 ≠ 0 := fun z2 => h (Prod.ext z z2)
    omega
  · omega
/-- a point strictly least in a direction cannot lie over an edge that has it at its left -/
theorem over_no {u v p g : Pt} (up : LtP u p) (pv : LtP p v) (h : 0 ≤ span u v p) (hg : LP (g.2, -g.1)) (hu : 0 < dt g (sb u p)) (hv : 0 < dt g (sb v p)) : False := by
  have e1 : cr (sb p u) (g.2, -g.1) = dt g (sb u p) := by unfold cr sb dt; grind
  have e2 : cr (g.2, -g.1) (sb v p) = dt g (sb v p) := by unfold cr sb dt; grind
  have := cr_lt (d := sb p u) (e := (g.2, -g.1)) (f := sb v p) (lp_of up) hg (lp_of pv) (by omega) (by omega)
  have e3 : cr (sb p u) (sb v p) = - span u v p := by unfold cr sb span; grind
  omega
theorem ext_hull {X : List Pt} {p : Pt} (h : Ext X p) : p ∈ hull X := by
  obtain ⟨hp, g, hg⟩ := h
  have hpL : p ∈ srt X := (mem_srt X p).mpr hp
  rcases Nat.lt_or_ge (srt X).length 2 with hl | hl
  · match hs : srt X, hl with
    | [], _ => rw [hs] at hpL; exact absurd hpL (by simp)
    | [q], _ => rw [hs] at hpL; rw [hull_one hs]; exact hpL
  · obtain ⟨a, z, r, r', T⟩ := two_of (pw_srt X) hl
    rw [mem_hull T]
    by_cases h1 : p ∈ z :: r
    · exact .inl h1
    · by_cases h2 : ng p ∈ ng a :: r'
      · exact .inr h2
      · exfalso
        obtain ⟨u, v, up, pv, hs, mu, mv⟩ := cover z r a p T.low T.bot (T.first p hpL) (T.last p hpL) h1
        have hu := hg u ((mem_srt X u).mp mu) fun e => by subst e; exact ltp_irr _ up
        have hv := hg v ((mem_srt X v).mp mv) fun e => by subst e; exact ltp_irr _ pv
        have g0 : (g.2, -g.1) ≠ ((0, 0) : Pt) := fun e => by
          have e1 : g.2 = 0 := congrArg Prod.fst e
          have e2 : -g.1 = 0 := congrArg Prod.snd e
          unfold dt at hu
          rw [e1, show g.1 = 0 by omega] at hu
          omega
        rcases lp_cases g0 with lg | lg
        · exact over_no up pv (hs p hpL) lg hu hv
        · have first' : ng p = ng z ∨ LtP (ng z) (ng p) := by
            rcases T.last p hpL with e | e
            · exact .inl (by rw [e])
            · exact .inr (ltp_ng.mpr e)
          have last' : ng p = ng a ∨ LtP (ng p) (ng a) := by
            rcases T.first p hpL with e | e
            · exact .inl (by rw [e])
            · exact .inr (ltp_ng.mpr e)
          obtain ⟨u', v', up', pv', hs', mu', mv'⟩ := cover (ng a) r' (ng z) (ng p) T.upp T.bot' first' last' h2
          have mu2 := mem_rv.mp mu'
          have mv2 := mem_rv.mp mv'
          have hu' := hg (ng u') ((mem_srt X _).mp mu2) fun e => by rw [← e, ng_ng] at up'; exact ltp_irr _ up'
          have hv' := hg (ng v') ((mem_srt X _).mp mv2) fun e => by rw [← e, ng_ng] at pv'; exact ltp_irr _ pv'
          refine over_no (g := ng g) up' pv' (hs' (ng p) (mem_rv.mpr (by rw [ng_ng]; exact hpL))) ?_ ?_ ?_
          · exact lg
          · have : dt (ng g) (sb u' (ng p)) = dt g (sb (ng u') p) := by unfold dt ng sb; grind
            rw [this]; exact hu'
          · have : dt (ng g) (sb v' (ng p)) = dt g (sb (ng v') p) := by unfold dt ng sb; grind
            rw [this]; exact hv'
/-- a direction in which the order's least is least -/
theorem ext_first : ∀ (X : List Pt) (a : Pt), (∀ q ∈ X, q = a ∨ LtP a q) → ∃ N : Int, 0 < N ∧ ∀ q ∈ X, q ≠ a → 0 < dt (N, 1) (sb q a)
  | [], a, _ => ⟨1, by decide, fun q h => absurd h (by simp)⟩
  | x :: X, a, h => by
    obtain ⟨N, N0, hN⟩ := ext_first X a fun q hq => h q (by simp [hq])
    refine ⟨N + (x.2 - a.2).natAbs + 1, by omega, fun q hq hne => ?_⟩
    have key : ∀ q : Pt, LtP a q → 0 < dt (N, 1) (sb q a) ∨ q = x → 0 < dt (N + ((x.2 - a.2).natAbs : Int) + 1, 1) (sb q a) := by
      intro q lt hq
      have e : dt (N + ((x.2 - a.2).natAbs : Int) + 1, 1) (sb q a) = dt (N, 1) (sb q a) + (((x.2 - a.2).natAbs : Int) + 1) * (q.1 - a.1) := by unfold dt sb; grind
      have e2 : dt (N, 1) (sb q a) = N * (q.1 - a.1) + (q.2 - a.2) := by unfold dt sb; grind
      rcases lt with lt | ⟨lt, lt2⟩
      · have p1 : 0 < (((x.2 - a.2).natAbs : Int) + 1) * (q.1 - a.1) := Int.mul_pos (by omega) (by omega)
        rcases hq with hq | rfl
        · omega
        · have p2 : 0 < N * (q.1 - a.1) := Int.mul_pos N0 (by omega)
          have p3 : (((q.2 - a.2).natAbs : Int) + 1) * 1 ≤ (((q.2 - a.2).natAbs : Int) + 1) * (q.1 - a.1) := Int.mul_le_mul_of_nonneg_left (by omega) (by omega)
          omega
      · have z : q.1 - a.1 = 0 := by omega
        rw [e, e2, z]; omega
    rcases h q hq with e | lt
    · exact absurd e hne
    · rcases List.mem_cons.mp hq with rfl | hq
      · exact key q lt (.inr rfl)
      · exact key q lt (.inl (hN q hq hne))
/-- a direction for an inner corner -/
theorem ext_inner {S : Pt → Prop} {t u s : Pt} {r : List Pt} (h : RCh S (t :: u :: s :: r)) : ∃ g : Pt, ∀ q, S q → q ≠ u → 0 < dt g (sb q u) := by
  refine ⟨(-(u.2 - s.2) - (t.2 - u.2), (u.1 - s.1) + (t.1 - u.1)), fun q hq hne => ?_⟩
  have h1 := h.lf.1 q hq
  have h2 := h.lf.2.1 q hq
  have h3 := h.tr.1
  have e : dt (-(u.2 - s.2) - (t.2 - u.2), (u.1 - s.1) + (t.1 - u.1)) (sb q u) = span s u q + span u t q := by unfold dt sb span; grind
  rw [e]
  by_cases z : span s u q + span u t q = 0
  · exfalso
    have z1 : span s u q = 0 := by omega
    have z2 : span u t q = 0 := by omega
    apply hne
    have i1 : span s u t * (q.1 - u.1) = (t.1 - u.1) * span s u q - (u.1 - s.1) * span u t q := by unfold span; grind
    have i2 : span s u t * (q.2 - u.2) = (t.2 - u.2) * span s u q - (u.2 - s.2) * span u t q := by unfold span; grind
    rw [z1, z2, Int.mul_zero, Int.mul_zero] at i1 i2
    have j1 : q.1 - u.1 = 0 := (Int.mul_eq_zero.mp (by omega : span s u t * (q.1 - u.1) = 0)).resolve_left (by omega)
    have j2 : q.2 - u.2 = 0 := (Int.mul_eq_zero.mp (by omega : span s u t * (q.2 - u.2) = 0)).resolve_left (by omega)
    exact Prod.ext (by omega) (by omega)
  · omega
theorem hull_ext {X : List Pt} {p : Pt} (h : p ∈ hull X) : Ext X p := by
  refine ⟨hull_mem h, ?_⟩
  rcases Nat.lt_or_ge (srt X).length 2 with hl | hl
  · match hs : srt X, hl with
    | [], _ => have := (mem_srt X p).mpr (hull_mem h); rw [hs] at this; exact absurd this (by simp)
    | [q], _ =>
      refine ⟨(0, 0), fun x hx hne => ?_⟩
      have h1 := (mem_srt X p).mpr (hull_mem h)
      have h2 := (mem_srt X x).mpr hx
      rw [hs, List.mem_singleton] at h1 h2
      exact absurd (h2.trans h1.symm) hne
  · obtain ⟨a, z, r, r', T⟩ := two_of (pw_srt X) hl
    have key : ∀ {g : Pt}, (∀ q ∈ srt X, q ≠ p → 0 < dt g (sb q p)) → ∃ g : Pt, ∀ q ∈ X, q ≠ p → 0 < dt g (sb q p) := fun hg => ⟨_, fun q hq => hg q ((mem_srt X q).mpr hq)⟩
    have fromA : p = a → ∃ g : Pt, ∀ q ∈ X, q ≠ p → 0 < dt g (sb q p) := fun e => by
      subst e
      obtain ⟨N, _, hN⟩ := ext_first (srt X) p T.first
      exact key hN
    have fromZ : p = z → ∃ g : Pt, ∀ q ∈ X, q ≠ p → 0 < dt g (sb q p) := fun e => by
      subst e
      obtain ⟨N, _, hN⟩ := ext_first (rv (srt X)) (ng p) fun q hq => by
        rcases T.last (ng q) (mem_rv.mp hq) with e | e
        · exact .inl (by rw [← e, ng_ng])
        · rw [← ng_ng q]; exact .inr (ltp_ng.mpr e)
      refine key (g := ng (N, 1)) fun q hq hne => ?_
      have := hN (ng q) (mem_rv.mpr (by rw [ng_ng]; exact hq)) fun e => hne (ng_inj e)
      have e2 : dt (ng (N, 1)) (sb q p) = dt (N, 1) (sb (ng q) (ng p)) := by unfold dt ng sb; grind
      rw [e2]; exact this
    rcases (mem_hull T p).mp h with h1 | h1
    · rcases List.mem_cons.mp h1 with e | h1
      · exact fromZ e
      · by_cases ea : p = a
        · exact fromA ea
        · obtain ⟨t, s, l, R⟩ := inner z r p T.low h1 (by rw [T.bot]; exact fun e => ea (Option.some.inj e).symm)
          obtain ⟨g, hg⟩ := ext_inner R
          exact key hg
    · rcases List.mem_cons.mp h1 with e | h1
      · exact fromA (ng_inj e)
      · by_cases ez : p = z
        · exact fromZ ez
        · obtain ⟨t, s, l, R⟩ := inner (ng a) r' (ng p) T.upp h1 (by rw [T.bot']; exact fun e => ez (ng_inj (Option.some.inj e)).symm)
          obtain ⟨g, hg⟩ := ext_inner R
          refine key (g := ng g) fun q hq hne => ?_
          have := hg (ng q) (mem_rv.mpr (by rw [ng_ng]; exact hq)) fun e => hne (ng_inj e)
          have e2 : dt (ng g) (sb q p) = dt g (sb (ng q) (ng p)) := by unfold dt ng sb; grind
          rw [e2]; exact this
theorem hull_iff {X : List Pt} {p : Pt} : p ∈ hull X ↔ Ext X p := ⟨hull_ext, ext_hull⟩
/-! ### pictures -/
/-- of a map that can be undone, over the plane -/
structure Aff (φ : Pt → Pt) (a b c d : Int) : Prop where
  x : ∀ p q, (φ q).1 - (φ p).1 = a * (q.1 - p.1) + b * (q.2 - p.2)
  y : ∀ p q, (φ q).2 - (φ p).2 = c * (q.1 - p.1) + d * (q.2 - p.2)
theorem Aff.inj {φ : Pt → Pt} {a b c d : Int} (h : Aff φ a b c d) (h0 : a * d - b * c ≠ 0) {p q : Pt} (e : φ p = φ q) : p = q := by
  have e1 := h.x p q
  have e2 := h.y p q
  rw [e] at e1 e2
  have i1 : (a * d - b * c) * (q.1 - p.1) = d * (a * (q.1 - p.1) + b * (q.2 - p.2)) - b * (c * (q.1 - p.1) + d * (q.2 - p.2)) := by grind
  have i2 : (a * d - b * c) * (q.2 - p.2) = a * (c * (q.1 - p.1) + d * (q.2 - p.2)) - c * (a * (q.1 - p.1) + b * (q.2 - p.2)) := by grind
  rw [← e1, ← e2, Int.sub_self, Int.sub_self, Int.mul_zero, Int.mul_zero] at i1 i2
  have j1 := (Int.mul_eq_zero.mp (by omega : (a * d - b * c) * (q.1 - p.1) = 0)).resolve_left h0
  have j2 := (Int.mul_eq_zero.mp (by omega : (a * d - b * c) * (q.2 - p.2) = 0)).resolve_left h0
  exact Prod.ext (by omega) (by omega)
/-- the corners of a picture are the pictures of the corners -/
theorem hull_pic {φ : Pt → Pt} {a b c d : Int} (h : Aff φ a b c d) (h0 : a * d - b * c ≠ 0) {X : List Pt} {p : Pt} : φ p ∈ hull (X.map φ) ↔ p ∈ hull X := by
  rw [hull_iff, hull_iff]
  constructor
  · rintro ⟨hp, g, hg⟩
    obtain ⟨p', hp', e⟩ := List.mem_map.mp hp
    have := h.inj h0 e
    subst this
    refine ⟨hp', (g.1 * a + g.2 * c, g.1 * b + g.2 * d), fun q hq hne => ?_⟩
    have := hg (φ q) (List.mem_map_of_mem hq) fun e => hne (h.inj h0 e)
    have e1 := h.x p' q
    have e2 := h.y p' q
    unfold dt sb at this ⊢
    dsimp only at this ⊢
    rw [e1, e2] at this
    grind
  · rintro ⟨hp, g, hg⟩
    refine ⟨List.mem_map_of_mem hp, ((a * d - b * c) * (g.1 * d - g.2 * c), (a * d - b * c) * (g.2 * a - g.1 * b)), fun y hy hne => ?_⟩
    obtain ⟨q, hq, rfl⟩ := List.mem_map.mp hy
    have := hg q hq fun e => hne (by rw [e])
    have e1 := h.x p q
    have e2 := h.y p q
    have id : dt ((a * d - b * c) * (g.1 * d - g.2 * c), (a * d - b * c) * (g.2 * a - g.1 * b)) (sb (φ q) (φ p)) = ((a * d - b * c) * (a * d - b * c)) * dt g (sb q p) := by
      unfold dt sb; dsimp only; rw [e1, e2]; grind
    rw [id]
    refine Int.mul_pos ?_ this
    have : 0 ≤ (a * d - b * c) * (a * d - b * c) := by
      rcases Int.le_total 0 (a * d - b * c) with z | z
      · exact Int.mul_nonneg z z
      · exact Int.mul_nonneg_of_nonpos_of_nonpos z z
    have n0 : (a * d - b * c) * (a * d - b * c) ≠ 0 := fun z => by rcases Int.mul_eq_zero.mp z with z | z <;> exact h0 z
    omega
theorem hull_map_hull {φ : Pt → Pt} {a b c d : Int} (h : Aff φ a b c d) (h0 : a * d - b * c ≠ 0) (X : List Pt) : hull ((hull X).map φ) = hull (X.map φ) := by
  refine hull_between (fun p hp => ?_) fun y hy => ?_
  · obtain ⟨q, hq, rfl⟩ := List.mem_map.mp hp
    exact List.mem_map_of_mem (hull_mem hq)
  · obtain ⟨q, hq, rfl⟩ := List.mem_map.mp (hull_mem hy)
    exact List.mem_map_of_mem ((hull_pic h h0).mp hy)
end Hull
/-! once round the corners -/
namespace Hull
open DL PySem PySem.Spec PyProof.Rows L2
def Adj (E : Pt → Pt → Prop) : List Pt → Prop
  | u :: v :: r => E u v ∧ Adj E (v :: r)
  | _ => True
theorem Adj.join {E : Pt → Pt → Prop} {z : Pt} {m : List Pt} : ∀ {l : List Pt}, Adj E (l ++ [z]) → Adj E (z :: m) → Adj E (l ++ z :: m)
  | [], _, h => h
  | [x], h1, h2 => ⟨h1.1, h2⟩
  | x :: y :: l, h1, h2 => ⟨h1.1, Adj.join (l := y :: l) h1.2 h2⟩
theorem Adj.at {E : Pt → Pt → Prop} : ∀ {l : List Pt} {i : Nat} {u v : Pt}, Adj E l → l[i]? = some u → l[i + 1]? = some v → E u v
  | x :: y :: l, 0, u, v, h, h1, h2 => by
    cases h1; cases h2; exact h.1
  | x :: y :: l, i + 1, u, v, h, h1, h2 => Adj.at (l := y :: l) (i := i) h.2 h1 h2
  | [x], 0, u, v, h, h1, h2 => by simp at h2
  | [x], i + 1, u, v, h, h1, h2 => by simp at h1
  | [], i, u, v, h, h1, h2 => by simp at h1
theorem RLft.adj {S : Pt → Prop} : ∀ {s : List Pt}, RLft S s → Adj (fun u v => ∀ p, S p → 0 ≤ span u v p) s.reverse
  | [], _ => trivial
  | [x], _ => trivial
  | b :: a :: r, h => by
    have ih := RLft.adj (s := a :: r) h.2
    rw [List.reverse_cons] at ih
    rw [List.reverse_cons, List.reverse_cons, List.append_assoc]
    exact Adj.join ih ⟨h.1, trivial⟩
/-- the corners and the first one again -/
theorem hull_closed {X : List Pt} {a z : Pt} {r r' : List Pt} (T : Two (srt X) a z r r') : hull X ++ [a] = r.reverse ++ z :: (((ng a :: r').map ng).reverse.tail) := by
  rw [hull_two X T.ne, T.e, T.e', List.tail_cons, List.tail_cons, List.map_cons, ng_ng, List.reverse_cons]
  have hb := T.bot'
  obtain ⟨m, hm⟩ : ∃ m, (r'.map ng).reverse ++ [a] = z :: m := by
    have : ((r'.map ng).reverse ++ [a]).head? = some z := by
      have e : (r'.map ng).reverse ++ [a] = ((ng a :: r').map ng).reverse := by rw [List.map_cons, ng_ng, List.reverse_cons]
      rw [e, List.head?_reverse, List.getLast?_map, hb]
      show some (ng (ng z)) = some z
      rw [ng_ng]
    cases h : (r'.map ng).reverse ++ [a] with
    | nil => rw [h] at this; exact nomatch this
    | cons x t => rw [h] at this; cases this; exact ⟨t, rfl⟩
  rw [List.append_assoc, hm, List.tail_cons]
/-- all points lie at the left of each side -/
theorem hull_sides {X : List Pt} {a z : Pt} {r r' : List Pt} (T : Two (srt X) a z r r') : Adj (fun u v => ∀ p ∈ X, 0 ≤ span u v p) (hull X ++ [a]) := by
  rw [hull_closed T]
  have low := T.low.lf.adj
  rw [List.reverse_cons] at low
  have upp := T.upp.lf.adj
  have um : Adj (fun u v => ∀ p ∈ X, 0 ≤ span u v p) ((ng a :: r').map ng).reverse := by
    have : ∀ l : List Pt, Adj (fun u v => ∀ p, p ∈ rv (srt X) → 0 ≤ span u v p) l → Adj (fun u v => ∀ p ∈ X, 0 ≤ span u v p) (l.map ng) := by
      intro l
      induction l with
      | nil => exact fun _ => trivial
      | cons x l ih =>
        intro h
        cases l with
        | nil => trivial
        | cons y l =>
          refine ⟨fun p hp => ?_, ih h.2⟩
          have := h.1 (ng p) (mem_rv.mpr (by rw [ng_ng]; exact (mem_srt X p).mpr hp))
          rw [← span_ng, ng_ng] at this
          exact this
    have := this _ upp
    rw [List.map_reverse] at this
    exact this
  have lm : Adj (fun u v => ∀ p ∈ X, 0 ≤ span u v p) (r.reverse ++ [z]) := by
    have : ∀ l : List Pt, Adj (fun u v => ∀ p, p ∈ srt X → 0 ≤ span u v p) l → Adj (fun u v => ∀ p ∈ X, 0 ≤ span u v p) l := by
      intro l
      induction l with
      | nil => exact fun _ => trivial
      | cons x l ih =>
        intro h
        cases l with
        | nil => trivial
        | cons y l => exact ⟨fun p hp => h.1 p ((mem_srt X p).mpr hp), ih h.2⟩
    exact this _ low
  refine lm.join ?_
  have hd : ((ng a :: r').map ng).reverse.head? = some z := by
    rw [List.head?_reverse, List.getLast?_map, T.bot']
    show some (ng (ng z)) = some z
    rw [ng_ng]
  cases h : ((ng a :: r').map ng).reverse with
  | nil => rw [h] at hd; exact nomatch hd
  | cons x t => rw [h] at hd um; cases hd; exact um
/-- no three corners on a line -/
theorem no3_mid {X : List Pt} {s m t : Pt} (hm : m ∈ hull X) (hs : s ∈ X) (ht : t ∈ X) (sm : LtP s m) (mt : LtP m t) (h : span s m t = 0) : False := by
  obtain ⟨_, g, hg⟩ := hull_ext hm
  have h1 := hg s hs fun e => by subst e; exact ltp_irr _ sm
  have h2 := hg t ht fun e => by subst e; exact ltp_irr _ mt
  have e : cr (sb m s) (sb t m) = 0 := by rw [← span_cr2]; exact h
  have d1 : dt g (sb m s) = - dt g (sb s m) := by unfold dt sb; grind
  have p1 := lp_of sm
  have p2 := lp_of mt
  generalize sb m s = d at *
  generalize sb t m = f at *
  have q1 : dt g d < 0 := by omega
  rcases p1 with p1 | ⟨p1, p1'⟩
  · have id : d.1 * dt g f = f.1 * dt g d := by unfold cr at e; unfold dt; grind
    have l : 0 < d.1 * dt g f := Int.mul_pos p1 h2
    have f0 : 0 ≤ f.1 := by unfold LP at p2; omega
    have : f.1 * dt g d ≤ 0 := Int.mul_nonpos_of_nonneg_of_nonpos f0 (Int.le_of_lt q1)
    omega
  · have fx : f.1 = 0 := by
      unfold cr at e
      rw [p1, Int.zero_mul, Int.zero_sub] at e
      exact (Int.mul_eq_zero.mp (by omega : d.2 * f.1 = 0)).resolve_left (by omega)
    have id : d.2 * dt g f = f.2 * dt g d := by unfold dt; rw [fx, p1]; grind
    have l : 0 < d.2 * dt g f := Int.mul_pos p1' h2
    have f0 : 0 < f.2 := by unfold LP at p2; omega
    have : f.2 * dt g d ≤ 0 := Int.mul_nonpos_of_nonneg_of_nonpos (by omega) (Int.le_of_lt q1)
    omega
theorem no3 {X : List Pt} {u v w : Pt} (hu : u ∈ hull X) (hv : v ∈ hull X) (hw : w ∈ hull X) (h1 : u ≠ v) (h2 : v ≠ w) (h3 : u ≠ w) : span u v w ≠ 0 := fun h => by
  have mu := hull_mem hu
  have mv := hull_mem hv
  have mw := hull_mem hw
  have a1 : span u w v = 0 := by rw [span_swap2]; omega
  have a2 : span v u w = 0 := by rw [span_swap]; omega
  have a3 : span v w u = 0 := by rw [← span_rot]; exact h
  have a4 : span w u v = 0 := by rw [← span_rot, ← span_rot]; exact h
  have a5 : span w v u = 0 := by rw [span_rot, span_rot]; rw [span_swap2]; rw [span_rot] at a1; omega
  rcases ltp_tot h1 with x | x <;> rcases ltp_tot h2 with y | y <;> rcases ltp_tot h3 with z | z
  · exact no3_mid hv mu mw x y h
  · exact no3_mid hv mu mw x y h
  · exact no3_mid hw mu mv z y a1
  · exact no3_mid hu mw mv z x a4
  · exact no3_mid hu mv mw x z a2
  · exact no3_mid hw mv mu y z a3
  · exact no3_mid hv mw mu y x a5
  · exact no3_mid hv mw mu y x a5
/-! by numbers -/
theorem hull_first {X : List Pt} {a z : Pt} {r r' : List Pt} (T : Two (srt X) a z r r') : (hull X).head? = some a := by
  rw [hull_two X T.ne, T.e, List.tail_cons]
  have hb := T.bot
  match r, hb with
  | [], hb =>
    rw [List.getLast?_singleton] at hb
    have := T.az
    rw [Option.some.inj hb] at this
    exact absurd this (ltp_irr _)
  | x :: r, hb =>
    rw [List.getLast?_cons_cons] at hb
    rw [List.head?_append, List.head?_reverse, hb]; rfl
theorem hull_side {X : List Pt} (h0 : X ≠ []) {k : Nat} (hk : k < (hull X).length) : ∀ p ∈ X, 0 ≤ span ((hull X).getD k (0, 0)) ((hull X).getD ((k + 1) % (hull X).length) (0, 0)) p := by
  intro p hp
  rcases Nat.lt_or_ge (srt X).length 2 with hl | hl
  · match hs : srt X, hl with
    | [], _ => have := (mem_srt X p).mpr hp; rw [hs] at this; exact absurd this (by simp)
    | [q], _ =>
      have e := hull_one hs
      rw [e] at hk ⊢
      have hk : k = 0 := by simp at hk; exact hk
      subst hk
      have e1 : ((0 : Nat) + 1) % [q].length = 0 := by rw [List.length_singleton]
      rw [e1]
      show 0 ≤ span q q p
      rw [span_self3]; exact Int.le_refl _
  · obtain ⟨a, z, r, r', T⟩ := two_of (pw_srt X) hl
    have S := hull_sides T
    have hf := hull_first T
    have n0 : 0 < (hull X).length := by omega
    have e1 : (hull X ++ [a])[k]? = some ((hull X).getD k (0, 0)) := by
      rw [List.getElem?_append_left hk, List.getD_eq_getElem?_getD, List.getElem?_eq_getElem hk]; rfl
    have e2 : (hull X ++ [a])[k + 1]? = some ((hull X).getD ((k + 1) % (hull X).length) (0, 0)) := by
      by_cases hk2 : k + 1 < (hull X).length
      · rw [Nat.mod_eq_of_lt hk2, List.getElem?_append_left hk2, List.getD_eq_getElem?_getD, List.getElem?_eq_getElem hk2]; rfl
      · have : k + 1 = (hull X).length := by omega
        rw [this, Nat.mod_self, List.getElem?_append_right (Nat.le_refl _), Nat.sub_self, List.getD_eq_getElem?_getD, show (hull X)[0]? = some a by rw [← List.head?_eq_getElem?]; exact hf]; rfl
    exact S.at e1 e2 p hp
theorem getD_inj {l : List Pt} (h : l.Nodup) {i j : Nat} (hi : i < l.length) (hj : j < l.length) (e : l.getD i (0, 0) = l.getD j (0, 0)) : i = j := by
  rw [List.getD_eq_getElem?_getD, List.getD_eq_getElem?_getD, List.getElem?_eq_getElem hi, List.getElem?_eq_getElem hj] at e
  exact (List.getElem_inj h).mp e
theorem hull_turn {X : List Pt} (h0 : X ≠ []) (h3 : 3 ≤ (hull X).length) {k : Nat} (hk : k < (hull X).length) : 0 < span ((hull X).getD k (0, 0)) ((hull X).getD ((k + 1) % (hull X).length) (0, 0)) ((hull X).getD ((k + 2) % (hull X).length) (0, 0)) := by
  have n1 : (k + 1) % (hull X).length < (hull X).length := Nat.mod_lt _ (by omega)
  have n2 : (k + 2) % (hull X).length < (hull X).length := Nat.mod_lt _ (by omega)
  have m : ∀ i, i < (hull X).length → (hull X).getD i (0, 0) ∈ hull X := fun i hi => by
    rw [List.getD_eq_getElem?_getD, List.getElem?_eq_getElem hi]; exact List.getElem_mem hi
  have nd := hull_nodup X
  have s := hull_side h0 hk _ (hull_mem (m _ n2))
  have d1 : k ≠ (k + 1) % (hull X).length := by
    intro e
    by_cases z : k + 1 < (hull X).length
    · rw [Nat.mod_eq_of_lt z] at e; omega
    · have : k + 1 = (hull X).length := by omega
      rw [this, Nat.mod_self] at e; omega
  have d2 : (k + 1) % (hull X).length ≠ (k + 2) % (hull X).length := by
    intro e
    by_cases z : k + 2 < (hull X).length
    · rw [Nat.mod_eq_of_lt z, Nat.mod_eq_of_lt (by omega)] at e; omega
    · by_cases z2 : k + 2 = (hull X).length
      · rw [z2, Nat.mod_self, Nat.mod_eq_of_lt (by omega)] at e; omega
      · have e1 : k + 1 = (hull X).length := by omega
        have e2 : k + 2 = (hull X).length + 1 := by omega
        rw [e1, e2, Nat.mod_self, Nat.add_mod_left, Nat.mod_eq_of_lt (by omega)] at e; omega
  have d3 : k ≠ (k + 2) % (hull X).length := by
    intro e
    by_cases z : k + 2 < (hull X).length
    · rw [Nat.mod_eq_of_lt z] at e; omega
    · by_cases z2 : k + 2 = (hull X).length
      · rw [z2, Nat.mod_self] at e; omega
      · have e2 : k + 2 = (hull X).length + 1 := by omega
        rw [e2, Nat.add_mod_left, Nat.mod_eq_of_lt (by omega)] at e; omega
  have := no3 (m k hk) (m _ n1) (m _ n2) (fun e => d1 (getD_inj nd hk n1 e)) (fun e => d2 (getD_inj nd n1 n2 e)) (fun e => d3 (getD_inj nd hk n2 e))
  omega
end Hull
/-! the order of points -/
namespace Hull
open DL PySem PySem.Spec PyProof.Rows L2
theorem lex_cons (O : KeyOrd) (x y : O.α) (xs ys : List O.α) : PyProof.Rows.lexLt O (x :: xs) (y :: ys) = (O.blt x y || !O.blt y x && PyProof.Rows.lexLt O xs ys) := by
  conv => lhs; unfold PyProof.Rows.lexLt
theorem lex_int (a b : Int) (xs ys : List (Int ⊕ List Nat)) : PyProof.Rows.lexLt itemOrd (Sum.inl a :: xs) (Sum.inl b :: ys) = (decide (a < b) || !decide (b < a) && PyProof.Rows.lexLt itemOrd xs ys) := lex_cons itemOrd _ _ _ _
theorem ltD_pt (p q : Pt) : ltD (pt p) (pt q) = decide (p.1 < q.1 ∨ (p.1 = q.1 ∧ p.2 < q.2)) := by
  obtain ⟨a, b⟩ := p
  obtain ⟨c, d⟩ := q
  have e : ∀ a b : Int, W.keyToks (PyData.tuple [PyData.int a, PyData.int b]) = [Sum.inl 1, Sum.inl a, Sum.inl 1, Sum.inl b, Sum.inl 0] := fun a b => by simp only [W.keyToks, W.keyToksAll]; rfl
  show PyProof.Rows.lexLt itemOrd (W.keyToks (PyData.tuple [PyData.int a, PyData.int b])) (W.keyToks (PyData.tuple [PyData.int c, PyData.int d])) = _
  rw [e, e, lex_int, lex_int, lex_int, lex_int, lex_int]
  have z : PyProof.Rows.lexLt itemOrd [] [] = false := by unfold PyProof.Rows.lexLt; rfl
  rw [z, Bool.eq_iff_iff]
  simp only [Bool.or_eq_true, Bool.and_eq_true, Bool.not_eq_true', decide_eq_true_eq, decide_eq_false_iff_not, Bool.false_eq_true, and_false, or_false]
  omega
end Hull
/-! where a point lies -/
namespace Hull
open DL PySem PySem.Spec PyProof.Rows L2
def sgn (i : Int) : Int := if 0 < i then 1 else if i < 0 then -1 else 0
theorem sgn_mono {i j : Int} (h : i ≤ j) : sgn i ≤ sgn j := by unfold sgn; (repeat' split) <;> omega
theorem turn_sgn (P Q R : Pt) : turn P Q R = sgn (span P Q R) := by
  unfold turn sgn span
  (repeat' split) <;> omega
theorem sgn_ints (i : Int) : (if i > 0 then (1 : Int) else 0) - (if i < 0 then 1 else 0) = sgn i := by
  unfold sgn
  (repeat' split) <;> omega
/-- the side behind the k-th corner -/
def sd (ps : List Pt) (p : Pt) (i : Nat) : Int := span (ps.getD i (0, 0)) (ps.getD ((i + 1) % ps.length) (0, 0)) p
def low (ps : List Pt) (p : Pt) : Int := (((List.range ps.length).map (sd ps p)).min?).getD 0
theorem low_spec {ps : List Pt} (h : ps ≠ []) (p : Pt) : ((List.range ps.length).map (sd ps p)).min? = some (low ps p) := by
  unfold low
  cases e : ((List.range ps.length).map (sd ps p)).min? with
  | none =>
    have := List.min?_eq_none_iff.mp e
    rw [List.map_eq_nil_iff, List.range_eq_nil] at this
    exact absurd (List.length_eq_zero_iff.mp this) h
  | some m => rfl
def pv (n k : Nat) : Nat := if k = 0 then n - 1 else k - 1
theorem pv_nx {n k : Nat} (h : k < n) : (pv n k + 1) % n = k ∧ pv n k < n := by
  unfold pv
  split
  · rename_i e; subst e
    have : n - 1 + 1 = n := by omega
    rw [this, Nat.mod_self]; omega
  · have : k - 1 + 1 = k := by omega
    rw [this, Nat.mod_eq_of_lt h]; omega
/-- the turns at each corner, told from the one ahead of it -/
theorem low_turns {ps : List Pt} (h : ps ≠ []) (p : Pt) : ((List.range ps.length).map fun k => turn (ps.getD (pv ps.length k) (0, 0)) (ps.getD k (0, 0)) p).min? = some (sgn (low ps p)) := by
  obtain ⟨m1, m2⟩ := List.min?_eq_some_iff.mp (low_spec h p)
  refine List.min?_eq_some_iff.mpr ⟨?_, fun b hb => ?_⟩
  · obtain ⟨i, hi, e⟩ := List.mem_map.mp m1
    have hi := List.mem_range.mp hi
    refine List.mem_map.mpr ⟨(i + 1) % ps.length, List.mem_range.mpr (Nat.mod_lt _ (by omega)), ?_⟩
    rw [turn_sgn, ← e]
    have : pv ps.length ((i + 1) % ps.length) = i := by
      by_cases z : i + 1 = ps.length
      · rw [z, Nat.mod_self]; unfold pv; rw [if_pos rfl]; omega
      · rw [Nat.mod_eq_of_lt (by omega)]; unfold pv; rw [if_neg (by omega)]; omega
    rw [this]; rfl
  · obtain ⟨k, hk, rfl⟩ := List.mem_map.mp hb
    have hk := List.mem_range.mp hk
    rw [turn_sgn]
    refine sgn_mono ?_
    obtain ⟨e, l⟩ := pv_nx hk
    have := m2 (sd ps p (pv ps.length k)) (List.mem_map_of_mem (List.mem_range.mpr l))
    unfold sd at this
    rw [e] at this
    exact this
/-- of one corner or two -/
def flat (ps : List Pt) (p : Pt) : Prop := span (ps.getD 0 (0, 0)) (ps.getD (ps.length - 1) (0, 0)) p = 0 ∧ ¬ LtP p (ps.getD 0 (0, 0)) ∧ ¬ LtP (ps.getD (ps.length - 1) (0, 0)) p
instance (ps : List Pt) (p : Pt) : Decidable (flat ps p) := by unfold flat; infer_instance
def whr (ps : List Pt) (p : Pt) : Int := if ps.length < 3 then (if flat ps p then 0 else -1) else sgn (low ps p)
/-! places -/
theorem at_k {ps : List Pt} {k : Nat} (h : k < ps.length) : atI (ps.map pt) (k : Int) = some (pt (ps.getD k (0, 0))) := by
  refine atI_nat ?_
  rw [List.getElem?_map, List.getElem?_eq_getElem h, List.getD_eq_getElem?_getD, List.getElem?_eq_getElem h]; rfl
theorem at_kI {ps : List Pt} {i : Int} {k : Nat} (e : i = (k : Int)) (h : k < ps.length) : atI (ps.map pt) i = some (pt (ps.getD k (0, 0))) := by rw [e]; exact at_k h
theorem at_last {ps : List Pt} (h : ps ≠ []) : atI (ps.map pt) (-1) = some (pt (ps.getD (ps.length - 1) (0, 0))) := by
  have hl : 0 < ps.length := List.length_pos_iff.mpr h
  unfold atI ixN
  rw [if_neg (by decide), if_pos (by rw [List.length_map]; omega)]
  have : ((-1 : Int) + ((ps.map pt).length : Int)).toNat = ps.length - 1 := by rw [List.length_map]; omega
  rw [this]
  show (ps.map pt)[ps.length - 1]? = _
  rw [List.getElem?_map, List.getElem?_eq_getElem (by omega), List.getD_eq_getElem?_getD, List.getElem?_eq_getElem (by omega)]; rfl
theorem at_prev {ps : List Pt} {k : Nat} (h : k < ps.length) : atI (ps.map pt) ((k : Int) - 1) = some (pt (ps.getD (pv ps.length k) (0, 0))) := by
  unfold pv
  split
  · rename_i e; subst e
    exact at_last (by intro e; subst e; simp at h)
  · exact at_kI (by omega) (by omega)
theorem getD_mem {ps : List Pt} {k : Nat} (h : k < ps.length) : ps.getD k (0, 0) ∈ ps := by
  rw [List.getD_eq_getElem?_getD, List.getElem?_eq_getElem h]; exact List.getElem_mem h
end Hull
/-! the least and the greatest of some points; the ends of a hull -/
namespace Hull
open DL PySem PySem.Spec PyProof.Rows L2
theorem minO_pts : ∀ (ps : List Pt) (p : Pt), ∃ m, minO (pt p) (ps.map pt) = pt m ∧ m ∈ p :: ps ∧ ∀ q ∈ p :: ps, q = m ∨ LtP m q
  | [], p => ⟨p, rfl, by simp, by simp⟩
  | x :: ps, p => by
    have e : minO (pt p) ((x :: ps).map pt) = minO (if ltD (pt x) (pt p) = true then pt x else pt p) (ps.map pt) := rfl
    rw [e, ltD_pt]
    by_cases h : LtP x p
    · rw [decide_eq_true (show x.1 < p.1 ∨ (x.1 = p.1 ∧ x.2 < p.2) from h), if_pos rfl]
      obtain ⟨m, e1, e2, e3⟩ := minO_pts ps x
      refine ⟨m, e1, List.mem_cons_of_mem _ e2, fun q hq => ?_⟩
      rcases List.mem_cons.mp hq with rfl | hq
      · rcases e3 x (by simp) with rfl | h2
        · exact .inr h
        · exact .inr (ltp_tr h2 h)
      · exact e3 q hq
    · rw [decide_eq_false (show ¬ (x.1 < p.1 ∨ (x.1 = p.1 ∧ x.2 < p.2)) from h), if_neg Bool.false_ne_true]
      obtain ⟨m, e1, e2, e3⟩ := minO_pts ps p
      refine ⟨m, e1, by rcases List.mem_cons.mp e2 with rfl | e2 <;> simp [*], fun q hq => ?_⟩
      rcases List.mem_cons.mp hq with rfl | hq
      · exact e3 q (by simp)
      · rcases List.mem_cons.mp hq with rfl | hq
        · by_cases hx : q = p
          · subst hx; exact e3 q (by simp)
          · rcases e3 p (by simp) with rfl | h2
            · rcases ltp_tot hx with h3 | h3
              · exact absurd h3 h
              · exact .inr h3
            · rcases ltp_tot hx with h3 | h3
              · exact absurd h3 h
              · exact .inr (ltp_tr h2 h3)
        · exact e3 q (by simp [hq])
theorem maxO_pts : ∀ (ps : List Pt) (p : Pt), ∃ m, maxO (pt p) (ps.map pt) = pt m ∧ m ∈ p :: ps ∧ ∀ q ∈ p :: ps, q = m ∨ LtP q m
  | [], p => ⟨p, rfl, by simp, by simp⟩
  | x :: ps, p => by
    have e : maxO (pt p) ((x :: ps).map pt) = maxO (if ltD (pt p) (pt x) = true then pt x else pt p) (ps.map pt) := rfl
    rw [e, ltD_pt]
    by_cases h : LtP p x
    · rw [decide_eq_true (show p.1 < x.1 ∨ (p.1 = x.1 ∧ p.2 < x.2) from h), if_pos rfl]
      obtain ⟨m, e1, e2, e3⟩ := maxO_pts ps x
      refine ⟨m, e1, List.mem_cons_of_mem _ e2, fun q hq => ?_⟩
      rcases List.mem_cons.mp hq with rfl | hq
      · rcases e3 x (by simp) with rfl | h2
        · exact .inr h
        · exact .inr (ltp_tr h h2)
      · exact e3 q hq
    · rw [decide_eq_false (show ¬ (p.1 < x.1 ∨ (p.1 = x.1 ∧ p.2 < x.2)) from h), if_neg Bool.false_ne_true]
      obtain ⟨m, e1, e2, e3⟩ := maxO_pts ps p
      refine ⟨m, e1, by rcases List.mem_cons.mp e2 with rfl | e2 <;> simp [*], fun q hq => ?_⟩
      rcases List.mem_cons.mp hq with rfl | hq
      · exact e3 q (by simp)
      · rcases List.mem_cons.mp hq with rfl | hq
        · by_cases hx : q = p
          · subst hx; exact e3 q (by simp)
          · rcases e3 p (by simp) with rfl | h2
            · rcases ltp_tot hx with h3 | h3
              · exact .inr h3
              · exact absurd h3 h
            · rcases ltp_tot hx with h3 | h3
              · exact .inr (ltp_tr h3 h2)
              · exact absurd h3 h
        · exact e3 q (by simp [hq])
theorem least_uniq {X : List Pt} {a b : Pt} (ha : a ∈ X) (hb : b ∈ X) (h : ∀ q ∈ X, q = a ∨ LtP a q) (h' : ∀ q ∈ X, q = b ∨ LtP b q) : a = b := by
  rcases h b hb with e | e
  · exact e.symm
  · rcases h' a ha with e' | e'
    · exact e'
    · exact absurd (ltp_tr e e') (ltp_irr _)
theorem most_uniq {X : List Pt} {a b : Pt} (ha : a ∈ X) (hb : b ∈ X) (h : ∀ q ∈ X, q = a ∨ LtP q a) (h' : ∀ q ∈ X, q = b ∨ LtP q b) : a = b := by
  rcases h b hb with e | e
  · exact e.symm
  · rcases h' a ha with e' | e'
    · exact e'
    · exact absurd (ltp_tr e e') (ltp_irr _)
theorem alk_pts (ps : List Pt) : AlkOk (ps.map pt) := by
  refine ⟨shp_ptsL 62 ps, ?_, ?_⟩
  · intro x hx y hy
    rw [toPyL_map] at hx hy
    obtain ⟨a, ha, rfl⟩ := List.mem_map.mp hx
    obtain ⟨b, hb, rfl⟩ := List.mem_map.mp hy
    obtain ⟨p, _, rfl⟩ := List.mem_map.mp ha
    obtain ⟨q, _, rfl⟩ := List.mem_map.mp hb
    rfl
  · intro x hx
    rw [toPyL_map] at hx
    obtain ⟨a, ha, rfl⟩ := List.mem_map.mp hx
    obtain ⟨p, _, rfl⟩ := List.mem_map.mp ha
    intro h
    exact nomatch h
theorem mn_pts {ps : List Pt} (h0 : ps ≠ []) {P : Dat → List Dat → Prop} (h : ∀ d ds m, ps.map pt = d :: ds → AlkOk (d :: ds) → minO d ds = pt m → m ∈ ps → (∀ q ∈ ps, q = m ∨ LtP m q) → P d ds) : match ps.map pt with | d :: ds => P d ds | [] => False := by
  match ps, h0 with
  | p :: ps, _ =>
    obtain ⟨m, e1, e2, e3⟩ := minO_pts ps p
    exact h _ _ m rfl (alk_pts (p :: ps)) e1 e2 e3
/-- the ends of a hull -/
theorem hull_ends {X : List Pt} (h0 : X ≠ []) : ∃ a t, hull X = a :: t ∧ a ∈ X ∧ (∀ q ∈ X, q = a ∨ LtP a q) ∧ (t.length ≤ 1 → ∃ z, (a :: t).getLast? = some z ∧ z ∈ X ∧ ∀ q ∈ X, q = z ∨ LtP q z) := by
  rcases Nat.lt_or_ge (srt X).length 2 with hl | hl
  · match hs : srt X, hl with
    | [], _ =>
      match X, h0 with
      | x :: X, _ => have := (mem_srt (x :: X) x).mpr (by simp); rw [hs] at this; exact absurd this (by simp)
    | [x], _ =>
      have all : ∀ q ∈ X, q = x := fun q hq => by have := (mem_srt X q).mpr hq; rw [hs] at this; exact List.mem_singleton.mp this
      have mx : x ∈ X := (mem_srt X x).mp (by rw [hs]; simp)
      exact ⟨x, [], hull_one hs, mx, fun q hq => .inl (all q hq), fun _ => ⟨x, rfl, mx, fun q hq => .inl (all q hq)⟩⟩
  · obtain ⟨a, z, r, r', T⟩ := two_of (pw_srt X) hl
    have hf := hull_first T
    cases e : hull X with
    | nil => rw [e] at hf; exact nomatch hf
    | cons b t =>
      rw [e] at hf
      have : b = a := by simpa using hf
      subst this
      have cv : ∀ q, q ∈ X → q ∈ srt X := fun q hq => (mem_srt X q).mpr hq
      refine ⟨b, t, rfl, (mem_srt X b).mp T.ma, fun q hq => T.first q (cv q hq), fun ht => ⟨z, ?_, (mem_srt X z).mp T.mz, fun q hq => T.last q (cv q hq)⟩⟩
      have mz : z ∈ hull X := (mem_hull T z).mpr (.inl (by simp))
      rw [e] at mz
      rcases List.mem_cons.mp mz with h | h
      · have := T.az
        rw [h] at this
        exact absurd this (ltp_irr _)
      · match t, ht, h with
        | [y], _, h => rw [List.mem_singleton.mp h]; rfl
end Hull
/-! how far points reach along a direction -/
namespace Hull
open DL PySem PySem.Spec PyProof.Rows L2
def wr (a b : Int) (p : Pt) : Int := a * p.1 + b * p.2
def mx (l : List Int) : Int := l.max?.getD 0
def mn (l : List Int) : Int := l.min?.getD 0
def spn (ps : List Pt) (a b : Int) : Int := mx (ps.map (wr a b)) - mn (ps.map (wr a b))
theorem mx_spec {l : List Int} (h : l ≠ []) : l.max? = some (mx l) := by
  unfold mx
  cases e : l.max? with
  | none => exact absurd (List.max?_eq_none_iff.mp e) h
  | some m => rfl
theorem mn_spec {l : List Int} (h : l ≠ []) : l.min? = some (mn l) := by
  unfold mn
  cases e : l.min? with
  | none => exact absurd (List.min?_eq_none_iff.mp e) h
  | some m => rfl
theorem mx_of {l : List Int} {M : Int} (h : M ∈ l) (h' : ∀ x ∈ l, x ≤ M) : mx l = M := by
  unfold mx
  rw [List.max?_eq_some_iff.mpr ⟨h, h'⟩]; rfl
theorem mn_of {l : List Int} {M : Int} (h : M ∈ l) (h' : ∀ x ∈ l, M ≤ x) : mn l = M := by
  unfold mn
  rw [List.min?_eq_some_iff.mpr ⟨h, h'⟩]; rfl
/-- the points that reach farthest, both ways -/
structure Ends (ps : List Pt) (a b : Int) (p q : Pt) : Prop where
  mp : p ∈ ps
  mq : q ∈ ps
  top : ∀ r ∈ ps, wr a b r ≤ wr a b p
  bot : ∀ r ∈ ps, wr a b q ≤ wr a b r
theorem Ends.spn {ps : List Pt} {a b : Int} {p q : Pt} (h : Ends ps a b p q) : spn ps a b = wr a b p - wr a b q := by
  unfold Hull.spn
  rw [mx_of (List.mem_map_of_mem h.mp) fun x hx => ?_, mn_of (List.mem_map_of_mem h.mq) fun x hx => ?_]
  · obtain ⟨r, hr, rfl⟩ := List.mem_map.mp hx; exact h.bot r hr
  · obtain ⟨r, hr, rfl⟩ := List.mem_map.mp hx; exact h.top r hr
theorem ends_of {ps : List Pt} (h : ps ≠ []) (a b : Int) : ∃ p q, Ends ps a b p q := by
  have h' : ps.map (wr a b) ≠ [] := by simpa using h
  obtain ⟨m1, m2⟩ := List.max?_eq_some_iff.mp (mx_spec h')
  obtain ⟨n1, n2⟩ := List.min?_eq_some_iff.mp (mn_spec h')
  obtain ⟨p, hp, ep⟩ := List.mem_map.mp m1
  obtain ⟨q, hq, eq⟩ := List.mem_map.mp n1
  exact ⟨p, q, hp, hq, fun r hr => by rw [ep]; exact m2 _ (List.mem_map_of_mem hr), fun r hr => by rw [eq]; exact n2 _ (List.mem_map_of_mem hr)⟩
/-- a corner reaches farthest -/
theorem top_hull {X : List Pt} (h0 : X ≠ []) (a b : Int) : ∃ p ∈ hull X, ∀ r ∈ X, wr a b r ≤ wr a b p := by
  by_cases hz : a = 0 ∧ b = 0
  · obtain ⟨rfl, rfl⟩ := hz
    obtain ⟨p, t, e, _⟩ := hull_ends h0
    exact ⟨p, by rw [e]; simp, fun r _ => by unfold wr; simp⟩
  · have af : Aff (fun p : Pt => (-a * p.1 + -b * p.2, -b * p.1 + a * p.2)) (-a) (-b) (-b) a := by
      refine ⟨fun p q => ?_, fun p q => ?_⟩
      · show (-a * q.1 + -b * q.2) - (-a * p.1 + -b * p.2) = -a * (q.1 - p.1) + -b * (q.2 - p.2); grind
      · show (-b * q.1 + a * q.2) - (-b * p.1 + a * p.2) = -b * (q.1 - p.1) + a * (q.2 - p.2); grind
    have hd : -a * a - -b * -b ≠ 0 := by
      intro e
      have e1 : a * a + b * b = 0 := by grind
      have sq : ∀ x : Int, 0 ≤ x * x := fun x => by
        rcases Int.le_total 0 x with h | h
        · exact Int.mul_nonneg h h
        · have := Int.mul_nonneg (show 0 ≤ -x by omega) (show 0 ≤ -x by omega)
          rwa [Int.neg_mul_neg] at this
      have ha := sq a
      have hb := sq b
      have a0 : a * a = 0 := by omega
      have b0 : b * b = 0 := by omega
      exact hz ⟨(Int.mul_eq_zero.mp a0).elim id id, (Int.mul_eq_zero.mp b0).elim id id⟩
    have h1 : X.map (fun p : Pt => (-a * p.1 + -b * p.2, -b * p.1 + a * p.2)) ≠ [] := by simpa using h0
    obtain ⟨c, t, e, mc, fc, _⟩ := hull_ends h1
    obtain ⟨p, hp, rfl⟩ := List.mem_map.mp mc
    have hh : (fun p : Pt => (-a * p.1 + -b * p.2, -b * p.1 + a * p.2)) p ∈ hull (X.map (fun p : Pt => (-a * p.1 + -b * p.2, -b * p.1 + a * p.2))) := by rw [e]; simp
    refine ⟨p, (hull_pic af hd).mp hh, fun r hr => ?_⟩
    have hr' := fc _ (List.mem_map_of_mem hr)
    unfold wr
    rcases hr' with e | e
    · simp only [Prod.mk.injEq] at e
      have := e.1
      have e1 : -a * r.1 + -b * r.2 = -(a * r.1 + b * r.2) := by grind
      have e2 : -a * p.1 + -b * p.2 = -(a * p.1 + b * p.2) := by grind
      omega
    · unfold LtP at e
      dsimp only at e
      have e1 : -a * r.1 + -b * r.2 = -(a * r.1 + b * r.2) := by grind
      have e2 : -a * p.1 + -b * p.2 = -(a * p.1 + b * p.2) := by grind
      omega
theorem spn_neg {ps : List Pt} (h : ps ≠ []) (a b : Int) : spn ps (-a) (-b) = spn ps a b := by
  obtain ⟨p, q, e⟩ := ends_of h a b
  have en : ∀ r, wr (-a) (-b) r = -wr a b r := fun r => by unfold wr; grind
  have e' : Ends ps (-a) (-b) q p := ⟨e.mq, e.mp, fun r hr => by rw [en, en]; have := e.bot r hr; omega, fun r hr => by rw [en, en]; have := e.top r hr; omega⟩
  rw [e.spn, e'.spn, en, en]; omega
theorem spn_hull {X : List Pt} (h : X ≠ []) (a b : Int) : spn (hull X) a b = spn X a b := by
  obtain ⟨p, hp, tp⟩ := top_hull h a b
  obtain ⟨q, hq, tq⟩ := top_hull h (-a) (-b)
  have en : ∀ r, wr (-a) (-b) r = -wr a b r := fun r => by unfold wr; grind
  have bq : ∀ r ∈ X, wr a b q ≤ wr a b r := fun r hr => by have := tq r hr; rw [en, en] at this; omega
  have e1 : Ends X a b p q := ⟨hull_mem hp, hull_mem hq, tp, bq⟩
  have e2 : Ends (hull X) a b p q := ⟨hp, hq, fun r hr => tp r (hull_mem hr), fun r hr => bq r (hull_mem hr)⟩
  rw [e1.spn, e2.spn]
theorem spn_off {ps : List Pt} (h : ps ≠ []) (a b x y : Int) : spn (ps.map fun p => (p.1 + x, p.2 + y)) a b = spn ps a b := by
  obtain ⟨p, q, e⟩ := ends_of h a b
  have en : ∀ r : Pt, wr a b (r.1 + x, r.2 + y) = wr a b r + wr a b (x, y) := fun r => by unfold wr; grind
  have e' : Ends (ps.map fun p => (p.1 + x, p.2 + y)) a b (p.1 + x, p.2 + y) (q.1 + x, q.2 + y) := by
    refine ⟨List.mem_map.mpr ⟨p, e.mp, rfl⟩, List.mem_map.mpr ⟨q, e.mq, rfl⟩, fun r hr => ?_, fun r hr => ?_⟩
    · obtain ⟨s, hs, rfl⟩ := List.mem_map.mp hr; rw [en, en]; have := e.top s hs; omega
    · obtain ⟨s, hs, rfl⟩ := List.mem_map.mp hr; rw [en, en]; have := e.bot s hs; omega
  rw [e.spn, e'.spn, en, en]; omega
theorem spn_times {ps : List Pt} (h : ps ≠ []) (m a b : Int) : spn ps (m * a) (m * b) = (if m < 0 then -m else m) * spn ps a b := by
  have en : ∀ r, wr (m * a) (m * b) r = m * wr a b r := fun r => by unfold wr; grind
  obtain ⟨p, q, e⟩ := ends_of h a b
  by_cases hm : m < 0
  · have e' : Ends ps (m * a) (m * b) q p := ⟨e.mq, e.mp, fun r hr => by rw [en, en]; exact Int.mul_le_mul_of_nonpos_left (by omega) (e.bot r hr), fun r hr => by rw [en, en]; exact Int.mul_le_mul_of_nonpos_left (by omega) (e.top r hr)⟩
    rw [if_pos hm, e.spn, e'.spn, en, en]; grind
  · have e' : Ends ps (m * a) (m * b) p q := ⟨e.mp, e.mq, fun r hr => by rw [en, en]; exact Int.mul_le_mul_of_nonneg_left (e.top r hr) (by omega), fun r hr => by rw [en, en]; exact Int.mul_le_mul_of_nonneg_left (e.bot r hr) (by omega)⟩
    rw [if_neg hm, e.spn, e'.spn, en, en]; grind
theorem spn_zero {ps : List Pt} (h : ps ≠ []) : spn ps 0 0 = 0 := by
  obtain ⟨p, q, e⟩ := ends_of h 0 0
  rw [e.spn]; unfold wr; simp
theorem spn_bt {ps : List Pt} {k j : Nat} (h : ps ≠ []) {a b : Int} (ha : Bt j a) (hb : Bt j b) (hp : ∀ p ∈ ps, BP k p) : Bt (j + k + 2) (spn ps a b) := by
  obtain ⟨p, q, e⟩ := ends_of h a b
  rw [e.spn]
  have w : ∀ r ∈ ps, Bt (j + k + 1) (wr a b r) := fun r hr => ((ha.mul (hp r hr).x).add (hb.mul (hp r hr).y)).mono (by omega)
  exact ((w p e.mp).sub (w q e.mq)).mono (by omega)
end Hull
/-! points put in order -/
namespace Hull
open DL PySem PySem.Spec PyProof.Rows L2
theorem srtok_pts (ps : List Pt) : SrtOk (ps.map pt) := by
  refine ⟨shp_ptsL 62 ps, ?_, .inl ?_⟩
  · intro x hx y hy
    rw [toPyL_map] at hx hy
    obtain ⟨a, ha, rfl⟩ := List.mem_map.mp hx
    obtain ⟨b, hb, rfl⟩ := List.mem_map.mp hy
    obtain ⟨p, _, rfl⟩ := List.mem_map.mp ha
    obtain ⟨q, _, rfl⟩ := List.mem_map.mp hb
    rfl
  · intro x hx
    rw [toPyL_map] at hx
    obtain ⟨a, ha, rfl⟩ := List.mem_map.mp hx
    obtain ⟨p, _, rfl⟩ := List.mem_map.mp ha
    exact ⟨_, _, rfl⟩
theorem sortD_pts {ps : List Pt} (hn : ps.Nodup) : sortD (ps.map pt) = (srt ps).map pt := by
  unfold sortD
  rw [← List.map_mergeSort (l := ps) (r := fun a b => !ltD (pt b) (pt a)) (s := fun a b => !ltD b a) (f := pt) (fun a _ b _ => rfl)]
  congr 1
  have le : ∀ a b : Pt, (!ltD (pt b) (pt a)) = true ↔ ¬ LtP b a := fun a b => by
    rw [ltD_pt]
    show (!decide (b.1 < a.1 ∨ (b.1 = a.1 ∧ b.2 < a.2))) = true ↔ ¬ LtP b a
    unfold LtP
    simp
    intro _
    by_cases h : b.1 = a.1 <;> simp [h]
  have pw := List.pairwise_mergeSort (le := fun a b : Pt => !ltD (pt b) (pt a)) (fun a b c h1 h2 => by
      rw [le] at h1 h2 ⊢
      unfold LtP at *
      omega) (fun a b => by
      rw [Bool.or_eq_true, le, le]
      unfold LtP
      omega) ps
  have pm := List.mergeSort_perm ps (fun a b : Pt => !ltD (pt b) (pt a))
  have nd : (ps.mergeSort fun a b : Pt => !ltD (pt b) (pt a)).Nodup := pm.nodup_iff.mpr hn
  refine srt_uniq ((pw.and nd).imp fun {a b} h => ?_) fun p => pm.mem_iff
  have h1 := (le a b).mp h.1
  rcases ltp_tot h.2 with z | z
  · exact z
  · exact absurd z h1
end Hull
/-! fields with one point inside, and those that face them -/
namespace Hrt
open DL PySem PySem.Spec PyProof.Rows L2 Hull Mov
def pre (ps : List Pt) (k : Nat) : Pt := ps.getD (pv ps.length k) (0, 0)
def cur (ps : List Pt) (k : Nat) : Pt := ps.getD k (0, 0)
def sde (ps : List Pt) (k : Nat) : Int := (pre ps k).1 * (cur ps k).2 - (pre ps k).2 * (cur ps k).1
def stp (ps : List Pt) (k : Nat) : Int := gd (pre ps k) (cur ps k)
def sumN (f : Nat → Int) : Nat → Int
  | 0 => 0
  | n + 1 => sumN f n + f n
def da (ps : List Pt) : Int := sumN (sde ps) ps.length
def rm (ps : List Pt) : Int := if ps.length < 3 then gd (ps.getD 0 (0, 0)) (ps.getD (ps.length - 1) (0, 0)) + 1 else sumN (stp ps) ps.length
def inn (ps : List Pt) : Int := if ps.length < 3 then 0 else (da ps * 1 * 1 - rm ps * 1 + 2) / 2
def heartB (ps : List Pt) : Bool := decide (whr ps (0, 0) = 1) && decide (inn ps = 1)
def Hrt (ps : List Pt) : Prop := 3 ≤ ps.length ∧ ∀ k, k < ps.length → sde ps k = stp ps k
theorem sumN_add (f g : Nat → Int) : ∀ n, sumN (fun k => f k + g k) n = sumN f n + sumN g n
  | 0 => rfl
  | n + 1 => by show sumN (fun k => f k + g k) n + (f n + g n) = sumN f n + f n + (sumN g n + g n); rw [sumN_add f g n]; omega
theorem sumN_sub (f g : Nat → Int) : ∀ n, sumN (fun k => f k - g k) n = sumN f n - sumN g n
  | 0 => rfl
  | n + 1 => by show sumN (fun k => f k - g k) n + (f n - g n) = sumN f n + f n - (sumN g n + g n); rw [sumN_sub f g n]; omega
theorem sumN_nn {f : Nat → Int} : ∀ {n : Nat}, (∀ k, k < n → 0 ≤ f k) → 0 ≤ sumN f n
  | 0, _ => Int.le_refl 0
  | n + 1, h => by
    have h1 := sumN_nn (n := n) fun k hk => h k (by omega)
    have h2 := h n (by omega)
    show 0 ≤ sumN f n + f n; omega
theorem sumN_zero {f : Nat → Int} (n : Nat) : (∀ k, k < n → 0 ≤ f k) → sumN f n = 0 → ∀ k, k < n → f k = 0 := by
  induction n with
  | zero => intro _ _ k hk; exact absurd hk (Nat.not_lt_zero _)
  | succ n ih =>
    intro h e k hk
    have h1 := sumN_nn (n := n) fun k hk => h k (by omega)
    have h2 := h n (by omega)
    have e : sumN f n + f n = 0 := e
    by_cases z : k = n
    · subst z; omega
    · exact ih (fun k hk => h k (by omega)) (by omega) k (by omega)
theorem sumN_par {f g : Nat → Int} : ∀ {n : Nat}, (∀ k, k < n → (f k - g k) % 2 = 0) → (sumN f n - sumN g n) % 2 = 0
  | 0, _ => rfl
  | n + 1, h => by
    have h1 := sumN_par (n := n) fun k hk => h k (by omega)
    have h2 := h n (by omega)
    show (sumN f n + f n - (sumN g n + g n)) % 2 = 0; omega
theorem sumN_pv (f : Nat → Int) (m : Nat) : ∀ j, j ≤ m → sumN (fun k => f (pv (m + 1) k)) (j + 1) = f m + sumN f j
  | 0, _ => by
    show (0 : Int) + f (pv (m + 1) 0) = f m + 0
    unfold Hull.pv; rw [if_pos rfl]; simp
  | j + 1, h => by
    show sumN (fun k => f (pv (m + 1) k)) (j + 1) + f (pv (m + 1) (j + 1)) = f m + (sumN f j + f j)
    rw [sumN_pv f m j (by omega)]
    have : pv (m + 1) (j + 1) = j := by unfold Hull.pv; rw [if_neg (by omega)]; omega
    rw [this]; omega
theorem sumN_round (f : Nat → Int) (n : Nat) : sumN (fun k => f (pv n k)) n = sumN f n := by
  cases n with
  | zero => rfl
  | succ m => rw [sumN_pv f m m (Nat.le_refl _)]; show f m + sumN f m = sumN f m + f m; omega
theorem sde_span (ps : List Pt) (k : Nat) : sde ps k = span (pre ps k) (cur ps k) (0, 0) := by unfold sde span; grind
/-- odd and even -/
def hh (p : Pt) : Int := p.1 * p.2 + p.1 + p.2
theorem par2 (p q : Pt) : (p.1 * q.2 - p.2 * q.1 - gd p q - (hh p + hh q)) % 2 = 0 := by
  have d1 := gd_u p q
  have d2 := gd_v p q
  have ev : gd p q % 2 = 0 ↔ (q.1 - p.1) % 2 = 0 ∧ (q.2 - p.2) % 2 = 0 := by
    constructor
    · intro h
      have h2 : (2 : Int) ∣ gd p q := Int.dvd_of_emod_eq_zero h
      exact ⟨Int.emod_eq_zero_of_dvd (Int.dvd_trans h2 d1), Int.emod_eq_zero_of_dvd (Int.dvd_trans h2 d2)⟩
    · rintro ⟨h1, h2⟩
      unfold gd
      exact Int.emod_eq_zero_of_dvd (Int.dvd_coe_gcd (Int.dvd_of_emod_eq_zero h1) (Int.dvd_of_emod_eq_zero h2))
  have e : ∀ x : Int, ∃ y b : Int, x = 2 * y + b ∧ (b = 0 ∨ b = 1) := fun x => ⟨x / 2, x % 2, by omega, by omega⟩
  obtain ⟨a, b⟩ := p
  obtain ⟨c, d⟩ := q
  obtain ⟨g, hg⟩ : ∃ g, g = gd (a, b) (c, d) := ⟨_, rfl⟩
  rw [← hg] at ev ⊢
  dsimp only at ev ⊢
  unfold hh
  dsimp only
  obtain ⟨a', a0, rfl, ha⟩ := e a
  obtain ⟨b', b0, rfl, hb⟩ := e b
  obtain ⟨c', c0, rfl, hc⟩ := e c
  obtain ⟨d', d0, rfl, hd⟩ := e d
  have key : (2 * a' + a0) * (2 * d' + d0) - (2 * b' + b0) * (2 * c' + c0) - g - ((2 * a' + a0) * (2 * b' + b0) + (2 * a' + a0) + (2 * b' + b0) + ((2 * c' + c0) * (2 * d' + d0) + (2 * c' + c0) + (2 * d' + d0))) = 2 * (2 * a' * d' + a' * d0 + a0 * d' - 2 * b' * c' - b' * c0 - b0 * c' - 2 * a' * b' - a' * b0 - a0 * b' - a' - b' - 2 * c' * d' - c' * d0 - c0 * d' - c' - d') + (a0 * d0 - b0 * c0 - a0 * b0 - a0 - b0 - c0 * d0 - c0 - d0) - g := by grind
  rw [key]
  generalize 2 * a' * d' + a' * d0 + a0 * d' - 2 * b' * c' - b' * c0 - b0 * c' - 2 * a' * b' - a' * b0 - a0 * b' - a' - b' - 2 * c' * d' - c' * d0 - c0 * d' - c' - d' = w
  rcases ha with rfl | rfl <;> rcases hb with rfl | rfl <;> rcases hc with rfl | rfl <;> rcases hd with rfl | rfl <;> simp <;> omega
theorem par (ps : List Pt) : (sumN (sde ps) ps.length - sumN (stp ps) ps.length) % 2 = 0 := by
  have h := sumN_par (f := fun k => sde ps k - stp ps k) (g := fun k => hh (pre ps k) + hh (cur ps k)) (n := ps.length) fun k hk => par2 (pre ps k) (cur ps k)
  rw [sumN_sub, sumN_add] at h
  have e := sumN_round (fun k => hh (cur ps k)) ps.length
  have e' : sumN (fun k => hh (pre ps k)) ps.length = sumN (fun k => hh (cur ps k)) ps.length := e
  rw [e'] at h
  omega
theorem low_pos {ps : List Pt} (h : ps ≠ []) (p : Pt) : 0 < low ps p ↔ ∀ k, k < ps.length → 0 < span (pre ps k) (cur ps k) p := by
  obtain ⟨m1, m2⟩ := List.min?_eq_some_iff.mp (low_spec h p)
  constructor
  · intro hl k hk
    obtain ⟨e, l⟩ := pv_nx hk
    have := m2 (sd ps p (pv ps.length k)) (List.mem_map_of_mem (List.mem_range.mpr l))
    unfold sd at this
    rw [e] at this
    exact Int.lt_of_lt_of_le hl this
  · intro hk
    obtain ⟨i, hi, e⟩ := List.mem_map.mp m1
    have hi := List.mem_range.mp hi
    rw [← e]
    have := hk ((i + 1) % ps.length) (Nat.mod_lt _ (by omega))
    have e2 : pv ps.length ((i + 1) % ps.length) = i := by
      by_cases z : i + 1 = ps.length
      · rw [z, Nat.mod_self]; unfold Hull.pv; rw [if_pos rfl]; omega
      · rw [Nat.mod_eq_of_lt (by omega)]; unfold Hull.pv; rw [if_neg (by omega)]; omega
    unfold pre at this
    rw [e2] at this
    exact this
theorem sgn_one {i : Int} : sgn i = 1 ↔ 0 < i := by unfold sgn; (repeat' split) <;> omega
theorem gd_sde (p q : Pt) : gd p q ∣ p.1 * q.2 - p.2 * q.1 := by
  have e : p.1 * q.2 - p.2 * q.1 = p.1 * (q.2 - p.2) - p.2 * (q.1 - p.1) := by grind
  rw [e]
  exact Int.dvd_sub (Int.dvd_mul_of_dvd_right (gd_v p q)) (Int.dvd_mul_of_dvd_right (gd_u p q))
theorem heart_iff {ps : List Pt} (hd : ∀ k, k < ps.length → pre ps k ≠ cur ps k) : heartB ps = true ↔ Hrt ps := by
  by_cases h3 : ps.length < 3
  · have w : whr ps (0, 0) ≠ 1 := by unfold whr; rw [if_pos h3]; split <;> omega
    unfold heartB Hrt
    rw [decide_eq_false w]
    exact ⟨fun h => (nomatch h), fun h => absurd h.1 (by omega)⟩
  · have h0 : ps ≠ [] := fun e => by rw [e] at h3; exact h3 (by decide)
    unfold heartB
    rw [Bool.and_eq_true, decide_eq_true_iff, decide_eq_true_iff]
    have ew : whr ps (0, 0) = 1 ↔ ∀ k, k < ps.length → 0 < sde ps k := by
      unfold whr
      rw [if_neg h3, sgn_one, low_pos h0]
      exact ⟨fun h k hk => by rw [sde_span]; exact h k hk, fun h k hk => by rw [← sde_span]; exact h k hk⟩
    have gp : ∀ k, k < ps.length → 0 < stp ps k := fun k hk => gd_pos (hd k hk)
    have ei : inn ps = (sumN (sde ps) ps.length * 1 * 1 - sumN (stp ps) ps.length * 1 + 2) / 2 := by unfold inn rm da; rw [if_neg h3, if_neg h3]
    rw [ew, ei]
    constructor
    · rintro ⟨h1, h2⟩
      refine ⟨by omega, fun k hk => ?_⟩
      have p := par ps
      have nn : ∀ k, k < ps.length → 0 ≤ sde ps k - stp ps k := fun k hk => by
        have := Int.le_of_dvd (h1 k hk) (gd_sde (pre ps k) (cur ps k))
        show 0 ≤ sde ps k - gd (pre ps k) (cur ps k)
        omega
      have s0 := sumN_nn nn
      rw [sumN_sub] at s0
      have := sumN_zero _ nn (by rw [sumN_sub]; omega) k hk
      omega
    · rintro ⟨_, h2⟩
      refine ⟨fun k hk => by rw [h2 k hk]; exact gp k hk, ?_⟩
      have : sumN (fun k => sde ps k - stp ps k) ps.length = 0 := by
        have : ∀ n, n ≤ ps.length → sumN (fun k => sde ps k - stp ps k) n = 0 := by
          intro n
          induction n with
          | zero => intro _; rfl
          | succ n ih => intro hn; show sumN _ n + (sde ps n - stp ps n) = 0; rw [ih (by omega), h2 n (by omega)]; omega
        exact this _ (Nat.le_refl _)
      rw [sumN_sub] at this
      omega
/-- the point that faces a side -/
def fp (p q : Pt) : Pt := ((q.2 - p.2) / gd p q, (p.1 - q.1) / gd p q)
def fcs (ps : List Pt) : List Pt := (List.range ps.length).map fun k => fp (pre ps k) (cur ps k)
def dot (f r : Pt) : Int := f.1 * r.1 + f.2 * r.2
theorem fp_dot {p q : Pt} (hs : p.1 * q.2 - p.2 * q.1 = gd p q) (r : Pt) : gd p q * dot (fp p q) r = gd p q - span p q r := by
  have d1 : gd p q * ((q.2 - p.2) / gd p q) = q.2 - p.2 := Int.mul_ediv_cancel' (gd_v p q)
  have d2 : gd p q * ((p.1 - q.1) / gd p q) = p.1 - q.1 := Int.mul_ediv_cancel' (by
    have := gd_u p q
    have e : p.1 - q.1 = -(q.1 - p.1) := by omega
    rw [e]; exact Int.dvd_neg.mpr this)
  unfold dot fp
  dsimp only
  generalize (q.2 - p.2) / gd p q = a at *
  generalize (p.1 - q.1) / gd p q = b at *
  unfold span
  rw [← hs] at *
  grind
section
variable {X : List Pt} (h0 : X ≠ []) (H : Hrt (hull X))
include h0 H
theorem pc {k : Nat} (hk : k < (hull X).length) : pre (hull X) k ∈ hull X ∧ cur (hull X) k ∈ hull X ∧ pre (hull X) k ≠ cur (hull X) k := by
  obtain ⟨e, l⟩ := pv_nx hk
  refine ⟨getD_mem l, getD_mem hk, fun z => ?_⟩
  have := getD_inj (hull_nodup X) l hk z
  have h3 := H.1
  unfold Hull.pv at this
  split at this <;> omega
theorem face_le {k : Nat} (hk : k < (hull X).length) {r : Pt} (hr : r ∈ hull X) : dot (fp (pre (hull X) k) (cur (hull X) k)) r ≤ 1 ∧ (dot (fp (pre (hull X) k) (cur (hull X) k)) r = 1 ↔ r = pre (hull X) k ∨ r = cur (hull X) k) := by
  obtain ⟨m1, m2, ne⟩ := pc h0 H hk
  have g := gd_pos ne
  have hs := H.2 k hk
  have e := fp_dot hs r
  obtain ⟨e1, l⟩ := pv_nx hk
  have sp := hull_side h0 l r (hull_mem hr)
  rw [e1] at sp
  have sp : 0 ≤ span (pre (hull X) k) (cur (hull X) k) r := sp
  obtain ⟨d, hd⟩ : ∃ d, d = dot (fp (pre (hull X) k) (cur (hull X) k)) r := ⟨_, rfl⟩
  rw [← hd] at e ⊢
  obtain ⟨G, hG⟩ : ∃ G, G = gd (pre (hull X) k) (cur (hull X) k) := ⟨_, rfl⟩
  rw [← hG] at e g
  refine ⟨?_, fun z => ?_, fun z => ?_⟩
  · by_cases q : d ≤ 1
    · exact q
    · have := Int.mul_le_mul_of_nonneg_left (show 2 ≤ d by omega) (Int.le_of_lt g)
      omega
  · rw [z, Int.mul_one] at e
    by_cases q1 : r = pre (hull X) k
    · exact .inl q1
    · by_cases q2 : r = cur (hull X) k
      · exact .inr q2
      · exact absurd (by omega) (no3 m1 m2 hr ne (fun z => q2 z.symm) fun z => q1 z.symm)
  · have s0 : span (pre (hull X) k) (cur (hull X) k) r = 0 := by
      rcases z with z | z <;> (rw [z]; unfold span; grind)
    rw [s0] at e
    have : G * (d - 1) = 0 := by rw [Int.mul_sub]; omega
    rcases Int.mul_eq_zero.mp this with q | q <;> omega
theorem face_inj {i j : Nat} (hi : i < (hull X).length) (hj : j < (hull X).length) (e : fp (pre (hull X) i) (cur (hull X) i) = fp (pre (hull X) j) (cur (hull X) j)) : i = j := by
  obtain ⟨m1, m2, ne⟩ := pc h0 H hi
  obtain ⟨n1, n2, ne'⟩ := pc h0 H hj
  have a1 := (face_le h0 H hi m1).2.mpr (.inl rfl)
  have a2 := (face_le h0 H hi m2).2.mpr (.inr rfl)
  rw [e] at a1 a2
  have b1 := (face_le h0 H hj m1).2.mp a1
  have b2 := (face_le h0 H hj m2).2.mp a2
  have h3 := H.1
  have nd := hull_nodup X
  obtain ⟨_, li⟩ := pv_nx hi
  obtain ⟨_, lj⟩ := pv_nx hj
  rcases b2 with b2 | b2
  · have k1 := getD_inj nd hi lj b2
    rcases b1 with b1 | b1
    · exact absurd (b1.trans b2.symm) ne
    · have k2 := getD_inj nd li hj b1
      unfold Hull.pv at k1 k2
      split at k1 <;> split at k2 <;> omega
  · exact getD_inj nd hi hj b2
theorem mem_fcs {f : Pt} : f ∈ fcs (hull X) ↔ ∃ k, k < (hull X).length ∧ f = fp (pre (hull X) k) (cur (hull X) k) := by
  unfold fcs
  rw [List.mem_map]
  constructor
  · rintro ⟨k, hk, e⟩; exact ⟨k, List.mem_range.mp hk, e.symm⟩
  · rintro ⟨k, hk, e⟩; exact ⟨k, List.mem_range.mpr hk, e.symm⟩
theorem fcs_hull {f : Pt} : f ∈ hull (fcs (hull X)) ↔ f ∈ fcs (hull X) := by
  refine ⟨hull_mem, fun hf => hull_iff.mpr ⟨hf, ?_⟩⟩
  obtain ⟨k, hk, rfl⟩ := (mem_fcs h0 H).mp hf
  obtain ⟨m1, m2, ne⟩ := pc h0 H hk
  refine ⟨(-((pre (hull X) k).1 + (cur (hull X) k).1), -((pre (hull X) k).2 + (cur (hull X) k).2)), fun q hq hne => ?_⟩
  obtain ⟨j, hj, rfl⟩ := (mem_fcs h0 H).mp hq
  have a1 := (face_le h0 H hk m1).2.mpr (.inl rfl)
  have a2 := (face_le h0 H hk m2).2.mpr (.inr rfl)
  have b1 := face_le h0 H hj m1
  have b2 := face_le h0 H hj m2
  have key : dt (-((pre (hull X) k).1 + (cur (hull X) k).1), -((pre (hull X) k).2 + (cur (hull X) k).2)) (sb (fp (pre (hull X) j) (cur (hull X) j)) (fp (pre (hull X) k) (cur (hull X) k))) = 2 - (dot (fp (pre (hull X) j) (cur (hull X) j)) (pre (hull X) k) + dot (fp (pre (hull X) j) (cur (hull X) j)) (cur (hull X) k)) := by
    unfold dot at *
    unfold dt sb
    grind
  rw [key]
  by_cases z : dot (fp (pre (hull X) j) (cur (hull X) j)) (pre (hull X) k) = 1 ∧ dot (fp (pre (hull X) j) (cur (hull X) j)) (cur (hull X) k) = 1
  · exfalso
    have c1 := b1.2.mp z.1
    have c2 := b2.2.mp z.2
    obtain ⟨n1, n2, ne'⟩ := pc h0 H hj
    have nd := hull_nodup X
    obtain ⟨_, li⟩ := pv_nx hk
    obtain ⟨_, lj⟩ := pv_nx hj
    have h3 := H.1
    rcases c2 with c2 | c2
    · rcases c1 with c1 | c1
      · exact ne (c1.trans c2.symm)
      · have k1 := getD_inj nd hk lj c2
        have k2 := getD_inj nd li hj c1
        unfold Hull.pv at k1 k2
        split at k1 <;> split at k2 <;> omega
    · have := getD_inj nd hk hj c2
      subst this
      exact hne rfl
  · omega
theorem fcs_nodup : (fcs (hull X)).Nodup := by
  unfold fcs
  rw [List.nodup_iff_pairwise_ne, List.pairwise_map]
  refine List.Pairwise.imp_of_mem ?_ (List.pairwise_lt_range)
  intro i j hi hj hlt e
  have := face_inj h0 H (List.mem_range.mp hi) (List.mem_range.mp hj) e
  omega
theorem fcs_len : (hull (fcs (hull X))).length = (hull X).length := by
  have e : (fcs (hull X)).length = (hull X).length := by unfold fcs; rw [List.length_map, List.length_range]
  rw [← e]
  have p : (hull (fcs (hull X))).Perm (fcs (hull X)) := (List.perm_ext_iff_of_nodup (hull_nodup _) (fcs_nodup h0 H)).mpr fun f => fcs_hull h0 H
  exact p.length_eq
end
end Hrt
/-! what is a heart and what is none -/
namespace Hrt
open DL PySem PySem.Spec PyProof.Rows L2 Hull Mov
theorem heart_small {ps : List Pt} (h3 : ps.length < 3) : heartB ps = false := by
  have w : whr ps (0, 0) ≠ 1 := by unfold whr; rw [if_pos h3]; split <;> omega
  unfold heartB
  rw [decide_eq_false w]; rfl
theorem getD_map {ps : List Pt} (φ : Pt → Pt) {k : Nat} (hk : k < ps.length) : (ps.map φ).getD k (0, 0) = φ (ps.getD k (0, 0)) := by
  rw [List.getD_eq_getElem?_getD, List.getD_eq_getElem?_getD, List.getElem?_map, List.getElem?_eq_getElem hk]; rfl
theorem pre_map {ps : List Pt} (φ : Pt → Pt) {k : Nat} (hk : k < ps.length) : pre (ps.map φ) k = φ (pre ps k) ∧ cur (ps.map φ) k = φ (cur ps k) := by
  obtain ⟨_, l⟩ := pv_nx hk
  unfold pre cur
  rw [List.length_map]
  exact ⟨getD_map φ l, getD_map φ hk⟩
section
variable {X : List Pt} (h0 : X ≠ []) (H : Hrt (hull X))
include h0 H
theorem not_off {s : Pt} (hs : s ≠ (0, 0)) : heartB ((hull X).map fun p => (p.1 + s.1, p.2 + s.2)) = false := by
  cases e : heartB ((hull X).map fun p => (p.1 + s.1, p.2 + s.2)) with
  | false => rfl
  | true =>
    exfalso
    obtain ⟨_, h⟩ := (heart_iff fun k hk => by
      rw [List.length_map] at hk
      obtain ⟨e1, e2⟩ := pre_map (fun p => (p.1 + s.1, p.2 + s.2)) hk
      rw [e1, e2]
      intro z
      have := (pc h0 H hk).2.2
      apply this
      simp only [Prod.mk.injEq] at z
      exact Prod.ext (by omega) (by omega)).mp e
    have key : ∀ k, k < (hull X).length → s.1 * ((cur (hull X) k).2 - (pre (hull X) k).2) = s.2 * ((cur (hull X) k).1 - (pre (hull X) k).1) := fun k hk => by
      have h1 := h k (by rw [List.length_map]; exact hk)
      have h2 := H.2 k hk
      obtain ⟨e1, e2⟩ := pre_map (fun p => (p.1 + s.1, p.2 + s.2)) hk
      unfold sde stp at h1 h2
      rw [e1, e2] at h1
      have g : gd ((pre (hull X) k).1 + s.1, (pre (hull X) k).2 + s.2) ((cur (hull X) k).1 + s.1, (cur (hull X) k).2 + s.2) = gd (pre (hull X) k) (cur (hull X) k) := by
        unfold gd
        dsimp only
        rw [show (cur (hull X) k).1 + s.1 - ((pre (hull X) k).1 + s.1) = (cur (hull X) k).1 - (pre (hull X) k).1 from by omega, show (cur (hull X) k).2 + s.2 - ((pre (hull X) k).2 + s.2) = (cur (hull X) k).2 - (pre (hull X) k).2 from by omega]
      rw [g, ← h2] at h1
      dsimp only at h1
      grind
    have n3 := H.1
    have k1 := key 1 (by omega)
    have k2 := key 2 (by omega)
    have tn := hull_turn h0 n3 (k := 0) (by omega)
    rw [Nat.mod_eq_of_lt (show 0 + 1 < (hull X).length by omega), Nat.mod_eq_of_lt (show 0 + 2 < (hull X).length by omega)] at tn
    have p1 : pre (hull X) 1 = (hull X).getD 0 (0, 0) := by unfold pre Hull.pv; rw [if_neg (by omega)]
    have p2 : pre (hull X) 2 = (hull X).getD 1 (0, 0) := by unfold pre Hull.pv; rw [if_neg (by omega)]
    have c1 : cur (hull X) 1 = (hull X).getD 1 (0, 0) := rfl
    have c2 : cur (hull X) 2 = (hull X).getD 2 (0, 0) := rfl
    rw [p1, c1] at k1
    rw [p2, c2] at k2
    generalize (hull X).getD 0 (0, 0) = A at *
    generalize (hull X).getD 1 (0, 0) = B at *
    generalize (hull X).getD 2 (0, 0) = C at *
    have tn : 0 < span A B C := tn
    have z1 : s.1 * span A B C = 0 := by unfold span; grind
    have z2 : s.2 * span A B C = 0 := by unfold span; grind
    apply hs
    have y1 := (Int.mul_eq_zero.mp z1).resolve_right (by omega)
    have y2 := (Int.mul_eq_zero.mp z2).resolve_right (by omega)
    exact Prod.ext y1 y2
theorem not_times {m : Int} (hm : 2 ≤ m) : heartB ((hull X).map fun p => (m * p.1, m * p.2)) = false := by
  cases e : heartB ((hull X).map fun p => (m * p.1, m * p.2)) with
  | false => rfl
  | true =>
    exfalso
    obtain ⟨_, h⟩ := (heart_iff fun k hk => by
      rw [List.length_map] at hk
      obtain ⟨e1, e2⟩ := pre_map (fun p => (m * p.1, m * p.2)) hk
      rw [e1, e2]
      intro z
      have := (pc h0 H hk).2.2
      apply this
      simp only [Prod.mk.injEq] at z
      exact Prod.ext (Int.eq_of_mul_eq_mul_left (by omega) z.1) (Int.eq_of_mul_eq_mul_left (by omega) z.2)).mp e
    have n3 := H.1
    have hk : 0 < (hull X).length := by omega
    have h1 := h 0 (by rw [List.length_map]; exact hk)
    have h2 := H.2 0 hk
    obtain ⟨e1, e2⟩ := pre_map (fun p => (m * p.1, m * p.2)) hk
    have gp := gd_pos (pc h0 H hk).2.2
    unfold sde stp at h1 h2
    rw [e1, e2] at h1
    have g : gd (m * (pre (hull X) 0).1, m * (pre (hull X) 0).2) (m * (cur (hull X) 0).1, m * (cur (hull X) 0).2) = m * gd (pre (hull X) 0) (cur (hull X) 0) := by
      unfold gd
      dsimp only
      rw [← Int.mul_sub, ← Int.mul_sub, Int.gcd_mul_left]
      have : (m.natAbs : Int) = m := by omega
      rw [Int.natCast_mul, this]
    rw [g] at h1
    dsimp only at h1
    obtain ⟨G, hG⟩ : ∃ G, G = gd (pre (hull X) 0) (cur (hull X) 0) := ⟨_, rfl⟩
    rw [← hG] at h1 h2 gp
    have e3 : m * (pre (hull X) 0).1 * (m * (cur (hull X) 0).2) - m * (pre (hull X) 0).2 * (m * (cur (hull X) 0).1) = m * (m * G) := by rw [← h2]; grind
    rw [e3] at h1
    have := Int.eq_of_mul_eq_mul_left (show m ≠ 0 by omega) h1
    have := Int.mul_le_mul_of_nonneg_right hm (Int.le_of_lt gp)
    omega
theorem corner_nz {p : Pt} (hp : p ∈ hull X) : p ≠ (0, 0) := by
  obtain ⟨i, hi, e⟩ := List.getElem_of_mem hp
  have h := H.2 i hi
  have g := gd_pos (pc h0 H hi).2.2
  intro z
  have c : cur (hull X) i = (0, 0) := by
    unfold cur
    rw [List.getD_eq_getElem?_getD, List.getElem?_eq_getElem hi, e, z]; rfl
  unfold sde stp at h
  rw [c] at h
  rw [c] at g
  dsimp only at h
  simp at h
  omega
end
theorem not_rim {A B : Pt} (hA : A ≠ (0, 0)) : heartB (hull [A, (0 - A.1, 0 - A.2), B]) = false := by
  obtain ⟨X, hX⟩ : ∃ X : List Pt, X = [A, (0 - A.1, 0 - A.2), B] := ⟨_, rfl⟩
  have h0 : X ≠ [] := by rw [hX]; simp
  rw [← hX]
  by_cases h3 : (hull X).length < 3
  · exact heart_small h3
  · cases e : heartB (hull X) with
    | false => rfl
    | true =>
      exfalso
      have nd := hull_nodup X
      have w : whr (hull X) (0, 0) = 1 := by
        unfold heartB at e
        rw [Bool.and_eq_true] at e
        exact of_decide_eq_true e.1
      unfold whr at w
      rw [if_neg h3, sgn_one, low_pos (hull_ne h0)] at w
      have hl : (hull X).length ≤ 3 := by have := hull_len X; rw [hX] at this ⊢; exact this
      have sub : ∀ p ∈ hull X, p = A ∨ p = (0 - A.1, 0 - A.2) ∨ p = B := fun p hp => by
        have := hull_mem hp
        rw [hX] at this
        simpa using this
      have memA : A ∈ hull X := by
        by_cases z : A ∈ hull X
        · exact z
        · have := nodup_len nd (m := [(0 - A.1, 0 - A.2), B]) fun p hp => by
            rcases sub p hp with q | q | q
            · rw [q] at hp; exact absurd hp z
            · rw [q]; simp
            · rw [q]; simp
          simp at this; omega
      have memN : ((0 - A.1, 0 - A.2) : Pt) ∈ hull X := by
        by_cases z : ((0 - A.1, 0 - A.2) : Pt) ∈ hull X
        · exact z
        · have := nodup_len nd (m := [A, B]) fun p hp => by
            rcases sub p hp with q | q | q
            · rw [q]; simp
            · rw [q] at hp; exact absurd hp z
            · rw [q]; simp
          simp at this; omega
      obtain ⟨i, hi, ei⟩ := List.getElem_of_mem memA
      obtain ⟨j, hj, ej⟩ := List.getElem_of_mem memN
      have gi : (hull X).getD i (0, 0) = A := by rw [List.getD_eq_getElem?_getD, List.getElem?_eq_getElem hi, ei]; rfl
      have gj : (hull X).getD j (0, 0) = (0 - A.1, 0 - A.2) := by rw [List.getD_eq_getElem?_getD, List.getElem?_eq_getElem hj, ej]; rfl
      have ne : i ≠ j := fun z => by
        subst z
        rw [gi] at gj
        apply hA
        have g1 := congrArg Prod.fst gj
        have g2 := congrArg Prod.snd gj
        dsimp only at g1 g2
        exact Prod.ext (by show A.1 = 0; omega) (by show A.2 = 0; omega)
      have three : (hull X).length = 3 := by omega
      have wi := w i hi
      have wj := w j hj
      unfold pre cur at wi wj
      rw [three] at wi wj
      rw [three] at hi hj
      by_cases q : Hull.pv 3 j = i
      · rw [q, gi, gj] at wj
        unfold span at wj
        dsimp only at wj
        have : (0 - A.1 - A.1) * (0 - A.2) - (0 - A.2 - A.2) * (0 - A.1) = 0 := by grind
        omega
      · have q : Hull.pv 3 i = j := by
          unfold Hull.pv at q ⊢
          split at q <;> split <;> omega
        rw [q, gi, gj] at wi
        unfold span at wi
        dsimp only at wi
        have : (A.1 - (0 - A.1)) * (0 - (0 - A.2)) - (A.2 - (0 - A.2)) * (0 - (0 - A.1)) = 0 := by grind
        omega
/-- the corner behind -/
theorem next_of {X : List Pt} (h0 : X ≠ []) (h3 : 3 ≤ (hull X).length) {u v : Pt} (hu : u ∈ hull X) (hv : v ∈ hull X) (ne : u ≠ v) (hs : ∀ p ∈ hull X, 0 ≤ span u v p) : ∃ k, k < (hull X).length ∧ pre (hull X) k = u ∧ cur (hull X) k = v := by
  obtain ⟨i, hi, e⟩ := List.getElem_of_mem hu
  have gi : (hull X).getD i (0, 0) = u := by rw [List.getD_eq_getElem?_getD, List.getElem?_eq_getElem hi, e]; rfl
  have nd := hull_nodup X
  have lk : (i + 1) % (hull X).length < (hull X).length := Nat.mod_lt _ (by omega)
  have e2 : Hull.pv (hull X).length ((i + 1) % (hull X).length) = i := by
    by_cases z : i + 1 = (hull X).length
    · rw [z, Nat.mod_self]; unfold Hull.pv; rw [if_pos rfl]; omega
    · rw [Nat.mod_eq_of_lt (by omega)]; unfold Hull.pv; rw [if_neg (by omega)]; omega
  refine ⟨(i + 1) % (hull X).length, lk, by unfold pre; rw [e2, gi], ?_⟩
  have s1 := hull_side h0 hi v (hull_mem hv)
  rw [gi] at s1
  unfold cur
  obtain ⟨w, hw⟩ : ∃ w, w = (hull X).getD ((i + 1) % (hull X).length) (0, 0) := ⟨_, rfl⟩
  have mw : w ∈ hull X := by rw [hw]; exact getD_mem lk
  rw [← hw] at s1 ⊢
  have s2 := hs w mw
  by_cases q : w = v
  · exact q
  · exfalso
    have uw : u ≠ w := fun z => by
      rw [hw, ← gi] at z
      have := getD_inj nd hi lk z
      by_cases z : i + 1 = (hull X).length
      · rw [z, Nat.mod_self] at this; omega
      · rw [Nat.mod_eq_of_lt (by omega)] at this; omega
    have e3 : span u w v = -span u v w := by unfold span; grind
    exact no3 hu mw hv uw q ne (by omega)
/-- a heart moved is a heart -/
theorem hrt_act {X : List Pt} (h0 : X ≠ []) (H : Hrt (hull X)) {m : Mv} (hm : IsMv m) (he : m.e = 0) (hf : m.f = 0) : Hrt (hull ((hull X).map (act m))) ∧ (hull ((hull X).map (act m))).length = (hull X).length := by
  have hn := hull_ne h0
  have hn' : (hull X).map (act m) ≠ [] := by simpa using hn
  have hd : m.a * m.d - m.b * m.c ≠ 0 := by have : det m ≠ 0 := by rcases hm with q | q <;> omega
                                            exact this
  have af : Aff (act m) m.a m.b m.c m.d := ⟨fun p q => by unfold act; grind, fun p q => by unfold act; grind⟩
  have mem : ∀ p, act m p ∈ hull ((hull X).map (act m)) ↔ p ∈ hull X := fun p => by
    rw [hull_pic af hd, hull_hull]
  have perm : (hull ((hull X).map (act m))).Perm ((hull X).map (act m)) := by
    refine (List.perm_ext_iff_of_nodup (hull_nodup _) ?_).mpr fun y => ?_
    · rw [List.nodup_iff_pairwise_ne, List.pairwise_map]
      exact (List.nodup_iff_pairwise_ne.mp (hull_nodup X)).imp fun hne z => hne (act_inj hm z)
    · constructor
      · exact hull_mem
      · intro hy
        obtain ⟨p, hp, rfl⟩ := List.mem_map.mp hy
        exact (mem p).mpr hp
  have len : (hull ((hull X).map (act m))).length = (hull X).length := by rw [perm.length_eq, List.length_map]
  refine ⟨⟨by rw [len]; exact H.1, fun k hk => ?_⟩, len⟩
  have n3 : 3 ≤ (hull ((hull X).map (act m))).length := by rw [len]; exact H.1
  obtain ⟨e1, l⟩ := pv_nx hk
  have mP : pre (hull ((hull X).map (act m))) k ∈ hull ((hull X).map (act m)) := getD_mem l
  have mQ : cur (hull ((hull X).map (act m))) k ∈ hull ((hull X).map (act m)) := getD_mem hk
  have ne : pre (hull ((hull X).map (act m))) k ≠ cur (hull ((hull X).map (act m))) k := fun z => by
    have := getD_inj (hull_nodup _) l hk z
    unfold Hull.pv at this
    split at this <;> omega
  have sp : ∀ p ∈ hull X, 0 ≤ span (pre (hull ((hull X).map (act m))) k) (cur (hull ((hull X).map (act m))) k) (act m p) := fun p hp => by
    have := hull_side hn' l (act m p) (List.mem_map_of_mem hp)
    rw [e1] at this
    exact this
  unfold sde stp
  obtain ⟨p, hp, eP⟩ := List.mem_map.mp (hull_mem mP)
  obtain ⟨q, hq, eQ⟩ := List.mem_map.mp (hull_mem mQ)
  rw [← eP, ← eQ] at sp ne ⊢
  have npq : p ≠ q := fun z => ne (by rw [z])
  have es : ∀ r, span (act m p) (act m q) (act m r) = det m * span p q r := fun r => by unfold span act det; grind
  have ec : (act m p).1 * (act m q).2 - (act m p).2 * (act m q).1 = det m * (p.1 * q.2 - p.2 * q.1) := by unfold act det; rw [he, hf]; grind
  rw [ec, gd_act hm]
  rcases hm with d1 | d1
  · obtain ⟨j, hj, u1, u2⟩ := next_of h0 H.1 hp hq npq fun r hr => by
      have := sp r hr
      rw [es, d1] at this; omega
    have := H.2 j hj
    unfold sde stp at this
    rw [u1, u2] at this
    rw [d1, this]; omega
  · obtain ⟨j, hj, u1, u2⟩ := next_of h0 H.1 hq hp (fun z => npq z.symm) fun r hr => by
      have := sp r hr
      rw [es, d1] at this
      have e3 : span q p r = -span p q r := by unfold span; grind
      omega
    have := H.2 j hj
    unfold sde stp at this
    rw [u1, u2] at this
    have gs : gd q p = gd p q := by
      unfold gd
      rw [show p.1 - q.1 = -(q.1 - p.1) from by omega, show p.2 - q.2 = -(q.2 - p.2) from by omega, Int.gcd_neg, Int.neg_gcd]
    rw [gs] at this
    rw [d1, ← this]; grind
/-- the eight points about -/
def nb : List Pt := [(1, 0), (1, 1), (0, 1), (-1, 1), (-1, 0), (-1, -1), (0, -1), (1, -1)]
theorem nb_gd : ∀ p ∈ nb, ∀ q ∈ nb, 0 < p.1 * q.2 - p.2 * q.1 → p.1 * q.2 - p.2 * q.1 = ((Int.gcd (q.1 - p.1) (q.2 - p.2) : Nat) : Int) := by decide +kernel
theorem nb_hrt {X : List Pt} (hX : ∀ p ∈ X, p ∈ nb) (h3 : 3 ≤ (hull X).length) (hs : ∀ k, k < (hull X).length → 0 < sde (hull X) k) : Hrt (hull X) := by
  refine ⟨h3, fun k hk => ?_⟩
  obtain ⟨_, l⟩ := pv_nx hk
  have m1 : pre (hull X) k ∈ hull X := getD_mem l
  have m2 : cur (hull X) k ∈ hull X := getD_mem hk
  have := nb_gd _ (hX _ (hull_mem m1)) _ (hX _ (hull_mem m2)) (hs k hk)
  unfold sde stp gd
  exact this
def box : List Pt := [(-1, -1), (1, -1), (1, 1), (-1, 1)]
theorem box_hull : hull box = box := by decide +kernel
theorem box_hrt : Hrt (hull box) := by
  refine nb_hrt (by decide) (by rw [box_hull]; decide) ?_
  rw [box_hull]
  decide +kernel
theorem low_sides {ps : List Pt} (h : ps ≠ []) (p : Pt) : ((List.range ps.length).map fun k => span (pre ps k) (cur ps k) p).min? = some (low ps p) := by
  obtain ⟨m1, m2⟩ := List.min?_eq_some_iff.mp (low_spec h p)
  refine List.min?_eq_some_iff.mpr ⟨?_, fun b hb => ?_⟩
  · obtain ⟨i, hi, e⟩ := List.mem_map.mp m1
    have hi := List.mem_range.mp hi
    refine List.mem_map.mpr ⟨(i + 1) % ps.length, List.mem_range.mpr (Nat.mod_lt _ (by omega)), ?_⟩
    rw [← e]
    have : Hull.pv ps.length ((i + 1) % ps.length) = i := by
      by_cases z : i + 1 = ps.length
      · rw [z, Nat.mod_self]; unfold Hull.pv; rw [if_pos rfl]; omega
      · rw [Nat.mod_eq_of_lt (by omega)]; unfold Hull.pv; rw [if_neg (by omega)]; omega
    unfold pre
    rw [this]; rfl
  · obtain ⟨k, hk, rfl⟩ := List.mem_map.mp hb
    have hk := List.mem_range.mp hk
    obtain ⟨e, l⟩ := pv_nx hk
    have := m2 (sd ps p (Hull.pv ps.length k)) (List.mem_map_of_mem (List.mem_range.mpr l))
    unfold sd at this
    rw [e] at this
    exact this
end Hrt
/-! the field that faces a heart is faced by it -/
namespace Hrt
open DL PySem PySem.Spec PyProof.Rows L2 Hull Mov
theorem nodup_two {l : List Pt} (h : l.Nodup) {a b : Pt} (ne : a ≠ b) (hm : ∀ x, x ∈ l ↔ x = a ∨ x = b) : l.length = 2 := by
  have : l.Perm [a, b] := (List.perm_ext_iff_of_nodup h (by simp [ne])).mpr fun x => by rw [hm]; simp
  rw [this.length_eq]; rfl
theorem count_two {l : List Pt} (h : l.Nodup) {g : Pt → Int} {a b : Pt} (ne : a ≠ b) (ha : a ∈ l) (hb : b ∈ l) (hm : ∀ x ∈ l, g x = 1 ↔ x = a ∨ x = b) : (l.map g).count 1 = 2 := by
  rw [List.count, List.countP_map, List.countP_eq_length_filter]
  refine nodup_two (h.filter _) ne fun x => ?_
  rw [List.mem_filter]
  simp only [Function.comp_apply, beq_iff_eq]
  constructor
  · rintro ⟨h1, h2⟩; exact (hm x h1).mp h2
  · intro h1
    have hx : x ∈ l := by rcases h1 with rfl | rfl <;> assumption
    exact ⟨hx, (hm x hx).mpr h1⟩
theorem max_one {l : List Pt} {g : Pt → Int} (h : ∀ x ∈ l, g x ≤ 1) {a : Pt} (ha : a ∈ l) (h1 : g a = 1) : (l.map g).max? = some 1 := by
  refine List.max?_eq_some_iff.mpr ⟨?_, fun b hb => ?_⟩
  · rw [← h1]; exact List.mem_map_of_mem ha
  · obtain ⟨x, hx, rfl⟩ := List.mem_map.mp hb; exact h x hx
theorem turn_cross {f f' p : Pt} (h : dot f p = 1) (h' : dot f' p = 1) : f'.1 - f.1 = -(p.2 * (f.1 * f'.2 - f.2 * f'.1)) ∧ f'.2 - f.2 = p.1 * (f.1 * f'.2 - f.2 * f'.1) := by
  unfold dot at h h'
  constructor
  · have : f'.1 * (f.1 * p.1 + f.2 * p.2) - f.1 * (f'.1 * p.1 + f'.2 * p.2) = f'.1 - f.1 := by rw [h, h']; omega
    rw [← this]; grind
  · have : f'.2 * (f.1 * p.1 + f.2 * p.2) - f.2 * (f'.1 * p.1 + f'.2 * p.2) = f'.2 - f.2 := by rw [h, h']; omega
    rw [← this]; grind
theorem gcd_one {f p : Pt} (h : dot f p = 1) : Int.gcd p.1 p.2 = 1 := by
  have d1 : ((Int.gcd p.1 p.2 : Nat) : Int) ∣ 1 := by
    rw [← h]; unfold dot
    exact Int.dvd_add (Int.dvd_mul_of_dvd_right (Int.gcd_dvd_left ..)) (Int.dvd_mul_of_dvd_right (Int.gcd_dvd_right ..))
  exact Nat.dvd_one.mp (Int.natCast_dvd_natCast.mp d1)
/-- the side between two faces that meet in a corner -/
theorem face_side {f f' p : Pt} (h : dot f p = 1) (h' : dot f' p = 1) (hc : 0 < f.1 * f'.2 - f.2 * f'.1) : gd f f' = f.1 * f'.2 - f.2 * f'.1 ∧ fp f f' = p := by
  obtain ⟨e1, e2⟩ := turn_cross h h'
  obtain ⟨l, hl⟩ : ∃ l, l = f.1 * f'.2 - f.2 * f'.1 := ⟨_, rfl⟩
  rw [← hl] at e1 e2 hc ⊢
  have g : gd f f' = l := by
    unfold gd
    rw [e1, e2, Int.neg_gcd, Int.mul_comm p.2 l, Int.mul_comm p.1 l, Int.gcd_mul_left, Int.gcd_comm, gcd_one h]
    omega
  refine ⟨g, ?_⟩
  unfold fp
  rw [g, e2]
  have e3 : f.1 - f'.1 = p.2 * l := by omega
  rw [e3, Int.mul_ediv_cancel _ (by omega), Int.mul_ediv_cancel _ (by omega)]
section
variable {X : List Pt} (h0 : X ≠ []) (H : Hrt (hull X))
include h0 H
/-- the face of a side -/
abbrev fk (X : List Pt) (k : Nat) : Pt := fp (pre (hull X) k) (cur (hull X) k)
theorem nx_pre {k : Nat} (hk : k < (hull X).length) : (k + 1) % (hull X).length < (hull X).length ∧ pre (hull X) ((k + 1) % (hull X).length) = cur (hull X) k := by
  refine ⟨Nat.mod_lt _ (by omega), ?_⟩
  have e2 : Hull.pv (hull X).length ((k + 1) % (hull X).length) = k := by
    by_cases z : k + 1 = (hull X).length
    · rw [z, Nat.mod_self]; unfold Hull.pv; rw [if_pos rfl]; omega
    · rw [Nat.mod_eq_of_lt (by omega)]; unfold Hull.pv; rw [if_neg (by omega)]; omega
  unfold pre
  rw [e2]; rfl
theorem faces_turn {k : Nat} (hk : k < (hull X).length) : 0 < (fk X k).1 * (fk X ((k + 1) % (hull X).length)).2 - (fk X k).2 * (fk X ((k + 1) % (hull X).length)).1 := by
  obtain ⟨hk', e⟩ := nx_pre h0 H hk
  obtain ⟨ek, lk⟩ := pv_nx hk
  have tn := hull_turn h0 H.1 lk
  have e3 : (Hull.pv (hull X).length k + 2) % (hull X).length = (k + 1) % (hull X).length := by
    have : Hull.pv (hull X).length k + 2 = Hull.pv (hull X).length k + 1 + 1 := rfl
    rw [this, Nat.add_mod, ek]
    have : k % (hull X).length = k := Nat.mod_eq_of_lt hk
    conv => rhs; rw [Nat.add_mod, this]
  rw [ek, e3] at tn
  have tn : 0 < span (pre (hull X) k) (cur (hull X) k) (cur (hull X) ((k + 1) % (hull X).length)) := tn
  have g1 := gd_pos (pc h0 H hk).2.2
  have g2 := gd_pos (pc h0 H hk').2.2
  rw [e] at g2
  unfold fk
  rw [e]
  generalize pre (hull X) k = A at *
  generalize cur (hull X) k = B at *
  generalize cur (hull X) ((k + 1) % (hull X).length) = C at *
  have d1 : gd A B * ((B.2 - A.2) / gd A B) = B.2 - A.2 := Int.mul_ediv_cancel' (gd_v A B)
  have d2 : gd A B * ((A.1 - B.1) / gd A B) = A.1 - B.1 := Int.mul_ediv_cancel' (by
    have e : A.1 - B.1 = -(B.1 - A.1) := by omega
    rw [e]; exact Int.dvd_neg.mpr (gd_u A B))
  have d3 : gd B C * ((C.2 - B.2) / gd B C) = C.2 - B.2 := Int.mul_ediv_cancel' (gd_v B C)
  have d4 : gd B C * ((B.1 - C.1) / gd B C) = B.1 - C.1 := Int.mul_ediv_cancel' (by
    have e : B.1 - C.1 = -(C.1 - B.1) := by omega
    rw [e]; exact Int.dvd_neg.mpr (gd_u B C))
  unfold fp
  dsimp only
  generalize (B.2 - A.2) / gd A B = a at *
  generalize (A.1 - B.1) / gd A B = b at *
  generalize (C.2 - B.2) / gd B C = c at *
  generalize (B.1 - C.1) / gd B C = d at *
  generalize gd A B = g at *
  generalize gd B C = g' at *
  have key : (g * g') * (a * d - b * c) = span A B C := by
    have : (g * g') * (a * d - b * c) = (g * a) * (g' * d) - (g * b) * (g' * c) := by grind
    rw [this, d1, d2, d3, d4]; unfold span; grind
  by_cases z : 0 < a * d - b * c
  · exact z
  · have := Int.mul_nonneg (Int.le_of_lt (Int.mul_pos g1 g2)) (show 0 ≤ -(a * d - b * c) by omega)
    rw [Int.mul_neg] at this
    omega
/-- which faces meet in a corner -/
theorem meets {j k : Nat} (hj : j < (hull X).length) (hk : k < (hull X).length) : dot (fk X j) (cur (hull X) k) = 1 ↔ fk X j = fk X k ∨ fk X j = fk X ((k + 1) % (hull X).length) := by
  obtain ⟨hk', e⟩ := nx_pre h0 H hk
  have m2 := (pc h0 H hk).2.1
  have nd := hull_nodup X
  constructor
  · intro h
    rcases (face_le h0 H hj m2).2.mp h with z | z
    · right
      have : pre (hull X) ((k + 1) % (hull X).length) = pre (hull X) j := by rw [e, z]
      have := getD_inj nd (pv_nx hk').2 (pv_nx hj).2 this
      have ej := (pv_nx hj).1
      have ek := (pv_nx hk').1
      rw [this] at ek
      rw [← ek, ej]
    · left
      have := getD_inj nd hk hj z
      rw [this]
  · rintro (h | h)
    · rw [h]; exact (face_le h0 H hk m2).2.mpr (.inr rfl)
    · rw [h]; exact (face_le h0 H hk' m2).2.mpr (.inl e.symm)
theorem nx_ne {k : Nat} (hk : k < (hull X).length) : fk X k ≠ fk X ((k + 1) % (hull X).length) := fun z => by
  obtain ⟨hk', e⟩ := nx_pre h0 H hk
  have := face_inj h0 H hk hk' z
  have h3 := H.1
  by_cases q : k + 1 = (hull X).length
  · rw [q, Nat.mod_self] at this; omega
  · rw [Nat.mod_eq_of_lt (by omega)] at this; omega
theorem fcs_ne : fcs (hull X) ≠ [] := fun e => by
  unfold fcs at e
  rw [List.map_eq_nil_iff, List.range_eq_nil] at e
  have := H.1
  omega
theorem mem_F {f : Pt} : f ∈ hull (fcs (hull X)) ↔ ∃ k, k < (hull X).length ∧ f = fk X k := (fcs_hull h0 H).trans (mem_fcs h0 H)
/-- the sides of the facing field -/
theorem side_of {k : Nat} (hk : k < (hull X).length) : ∃ m, m < (hull (fcs (hull X))).length ∧ pre (hull (fcs (hull X))) m = fk X k ∧ cur (hull (fcs (hull X))) m = fk X ((k + 1) % (hull X).length) := by
  obtain ⟨hk', e⟩ := nx_pre h0 H hk
  have m2 := (pc h0 H hk).2.1
  refine next_of (fcs_ne h0 H) (by rw [fcs_len h0 H]; exact H.1) ((mem_F h0 H).mpr ⟨k, hk, rfl⟩) ((mem_F h0 H).mpr ⟨_, hk', rfl⟩) (nx_ne h0 H hk) fun g hg => ?_
  obtain ⟨j, hj, rfl⟩ := (mem_F h0 H).mp hg
  have a1 := (meets h0 H hk hk).mpr (.inl rfl)
  have a2 := (meets h0 H hk' hk).mpr (.inr rfl)
  have a3 := (face_le h0 H hj m2).1
  have tp := faces_turn h0 H hk
  obtain ⟨e1, e2⟩ := turn_cross a1 a2
  have a3 : dot (fk X j) (cur (hull X) k) ≤ 1 := a3
  generalize fk X k = f at *
  generalize fk X ((k + 1) % (hull X).length) = f' at *
  generalize fk X j = g at *
  generalize cur (hull X) k = p at *
  obtain ⟨l, hl⟩ : ∃ l, l = f.1 * f'.2 - f.2 * f'.1 := ⟨_, rfl⟩
  rw [← hl] at e1 e2 tp
  have key : span f f' g = l * (1 - dot g p) := by
    unfold span
    rw [e1, e2]
    unfold dot at a1 ⊢
    rw [← a1]
    grind
  rw [key]
  exact Int.mul_nonneg (by omega) (by omega)
theorem of_side {m : Nat} (hm : m < (hull (fcs (hull X))).length) : ∃ k, k < (hull X).length ∧ pre (hull (fcs (hull X))) m = fk X k ∧ cur (hull (fcs (hull X))) m = fk X ((k + 1) % (hull X).length) := by
  obtain ⟨em, lm⟩ := pv_nx hm
  have mp : pre (hull (fcs (hull X))) m ∈ hull (fcs (hull X)) := getD_mem lm
  obtain ⟨k, hk, ek⟩ := (mem_F h0 H).mp mp
  obtain ⟨m', hm', e1, e2⟩ := side_of h0 H hk
  have : pre (hull (fcs (hull X))) m = pre (hull (fcs (hull X))) m' := by rw [ek, e1]
  have := getD_inj (hull_nodup _) lm (pv_nx hm').2 this
  have em' := (pv_nx hm').1
  rw [← this, em] at em'
  subst em'
  exact ⟨k, hk, e1, e2⟩
theorem facing_hrt : Hrt (hull (fcs (hull X))) := by
  refine ⟨by rw [fcs_len h0 H]; exact H.1, fun m hm => ?_⟩
  obtain ⟨k, hk, e1, e2⟩ := of_side h0 H hm
  obtain ⟨hk', _⟩ := nx_pre h0 H hk
  unfold sde stp
  rw [e1, e2]
  exact (face_side ((meets h0 H hk hk).mpr (.inl rfl)) ((meets h0 H hk' hk).mpr (.inr rfl)) (faces_turn h0 H hk)).1.symm
theorem facing_back : hull (fcs (hull (fcs (hull X)))) = hull X := by
  have hF := facing_hrt h0 H
  have e : hull (fcs (hull (fcs (hull X)))) = hull (hull X) := hull_congr fun p => by
    rw [mem_fcs (fcs_ne h0 H) hF]
    constructor
    · rintro ⟨m, hm, rfl⟩
      obtain ⟨k, hk, e1, e2⟩ := of_side h0 H hm
      obtain ⟨hk', _⟩ := nx_pre h0 H hk
      rw [e1, e2, (face_side ((meets h0 H hk hk).mpr (.inl rfl)) ((meets h0 H hk' hk).mpr (.inr rfl)) (faces_turn h0 H hk)).2]
      exact (pc h0 H hk).2.1
    · intro hp
      obtain ⟨k, hk, e⟩ := List.getElem_of_mem hp
      obtain ⟨m, hm, e1, e2⟩ := side_of h0 H hk
      obtain ⟨hk', _⟩ := nx_pre h0 H hk
      refine ⟨m, hm, ?_⟩
      rw [e1, e2, (face_side ((meets h0 H hk hk).mpr (.inl rfl)) ((meets h0 H hk' hk).mpr (.inr rfl)) (faces_turn h0 H hk)).2]
      unfold cur
      rw [List.getD_eq_getElem?_getD, List.getElem?_eq_getElem hk, e]; rfl
  rw [e, hull_hull]
/-- each face and the corners -/
theorem meet_one {f : Pt} (hf : f ∈ hull (fcs (hull X))) : ((hull X).map (dot f)).max? = some 1 ∧ ((hull X).map (dot f)).count 1 = 2 := by
  obtain ⟨k, hk, rfl⟩ := (mem_F h0 H).mp hf
  obtain ⟨m1, m2, ne⟩ := pc h0 H hk
  exact ⟨max_one (fun x hx => (face_le h0 H hk hx).1) m1 ((face_le h0 H hk m1).2.mpr (.inl rfl)), count_two (hull_nodup X) ne m1 m2 fun x hx => (face_le h0 H hk hx).2⟩
theorem meet_two {p : Pt} (hp : p ∈ hull X) : ((hull (fcs (hull X))).map (dot p)).max? = some 1 ∧ ((hull (fcs (hull X))).map (dot p)).count 1 = 2 := by
  obtain ⟨k, hk, e⟩ := List.getElem_of_mem hp
  have ep : p = cur (hull X) k := by unfold cur; rw [List.getD_eq_getElem?_getD, List.getElem?_eq_getElem hk, e]; rfl
  obtain ⟨hk', _⟩ := nx_pre h0 H hk
  have sw : ∀ f, dot p f = dot f p := fun f => by unfold dot; grind
  have mk := (mem_F h0 H).mpr ⟨k, hk, rfl⟩
  have mk' := (mem_F h0 H).mpr ⟨_, hk', rfl⟩
  refine ⟨max_one (fun x hx => ?_) mk ?_, count_two (hull_nodup _) (nx_ne h0 H hk) mk mk' fun x hx => ?_⟩
  · obtain ⟨j, hj, rfl⟩ := (mem_F h0 H).mp hx
    rw [sw]; exact (face_le h0 H hj hp).1
  · rw [sw, ep]; exact (meets h0 H hk hk).mpr (.inl rfl)
  · obtain ⟨j, hj, rfl⟩ := (mem_F h0 H).mp hx
    rw [sw, ep]; exact meets h0 H hj hk
end
end Hrt
/-! the law's own word for a heart -/
namespace Hrt
open DL PySem PySem.Spec PyProof.Rows L2 Hull Mov
def lawB (ps : List Pt) : Bool := decide (∀ k, k < ps.length → sde ps k = stp ps k)
theorem law_heart {X : List Pt} (h2 : 2 ≤ (hull X).length) : heartB (hull X) = lawB (hull X) := by
  have nd := hull_nodup X
  have ne : ∀ k, k < (hull X).length → pre (hull X) k ≠ cur (hull X) k := fun k hk z => by
    have := getD_inj nd (pv_nx hk).2 hk z
    unfold Hull.pv at this
    split at this <;> omega
  rw [Bool.eq_iff_iff, heart_iff ne]
  unfold lawB Hrt
  rw [decide_eq_true_iff]
  refine ⟨fun h => h.2, fun h => ⟨?_, h⟩⟩
  by_cases z : 3 ≤ (hull X).length
  · exact z
  · exfalso
    have e2 : (hull X).length = 2 := by omega
    have q0 := h 0 (by omega)
    have q1 := h 1 (by omega)
    have g0 := gd_pos (ne 0 (by omega))
    have g1 := gd_pos (ne 1 (by omega))
    have p0 : pre (hull X) 0 = cur (hull X) 1 := by unfold pre cur Hull.pv; rw [if_pos rfl, e2]
    have p1 : pre (hull X) 1 = cur (hull X) 0 := by unfold pre cur Hull.pv; rw [if_neg (by omega)]
    unfold sde stp at q0 q1
    rw [p0] at q0 g0
    rw [p1] at q1 g1
    have : (cur (hull X) 0).1 * (cur (hull X) 1).2 - (cur (hull X) 0).2 * (cur (hull X) 1).1 = -((cur (hull X) 1).1 * (cur (hull X) 0).2 - (cur (hull X) 1).2 * (cur (hull X) 0).1) := by grind
    omega
/-- two points have two corners -/
theorem two_corners {X : List Pt} {p q : Pt} (hp : p ∈ X) (hq : q ∈ X) (ne : p ≠ q) : 2 ≤ (hull X).length := by
  have h0 : X ≠ [] := fun e => by rw [e] at hp; exact nomatch hp
  have hn := hull_ne h0
  by_cases z : 2 ≤ (hull X).length
  · exact z
  · exfalso
    have e1 : (hull X).length = 1 := by have := List.length_pos_iff.mpr hn; omega
    obtain ⟨r, hr⟩ := List.length_eq_one_iff.mp e1
    have all : ∀ s ∈ X, s = r := fun s hs => by
      obtain ⟨t1, m1, h1⟩ := top_hull h0 1 0
      obtain ⟨t2, m2, h2⟩ := top_hull h0 (-1) 0
      obtain ⟨t3, m3, h3⟩ := top_hull h0 0 1
      obtain ⟨t4, m4, h4⟩ := top_hull h0 0 (-1)
      rw [hr] at m1 m2 m3 m4
      have e1 := List.mem_singleton.mp m1
      have e2 := List.mem_singleton.mp m2
      have e3 := List.mem_singleton.mp m3
      have e4 := List.mem_singleton.mp m4
      have u1 := h1 s hs
      have u2 := h2 s hs
      have u3 := h3 s hs
      have u4 := h4 s hs
      rw [e1] at u1
      rw [e2] at u2
      rw [e3] at u3
      rw [e4] at u4
      unfold wr at u1 u2 u3 u4
      exact Prod.ext (by omega) (by omega)
    exact ne ((all p hp).trans (all q hq).symm)
end Hrt
/-! the twelve -/
namespace Hrt
open DL PySem PySem.Spec PyProof.Rows L2 Hull Mov
def sides (ps : List Pt) : List (Pt × Pt) := (List.range ps.length).map fun k => (pre ps k, cur ps k)
theorem mem_sides {X : List Pt} (h0 : X ≠ []) (h3 : 3 ≤ (hull X).length) {u v : Pt} : (u, v) ∈ sides (hull X) ↔ u ∈ hull X ∧ v ∈ hull X ∧ u ≠ v ∧ ∀ p ∈ hull X, 0 ≤ span u v p := by
  unfold sides
  rw [List.mem_map]
  constructor
  · rintro ⟨k, hk, e⟩
    have hk := List.mem_range.mp hk
    rw [Prod.mk.injEq] at e
    obtain ⟨rfl, rfl⟩ := e
    obtain ⟨e1, l⟩ := pv_nx hk
    refine ⟨getD_mem l, getD_mem hk, fun z => ?_, fun p hp => ?_⟩
    · have := getD_inj (hull_nodup X) l hk z
      unfold Hull.pv at this
      split at this <;> omega
    · have := hull_side h0 l p (hull_mem hp)
      rw [e1] at this
      exact this
  · rintro ⟨hu, hv, ne, hs⟩
    obtain ⟨k, hk, e1, e2⟩ := next_of h0 h3 hu hv ne hs
    exact ⟨k, List.mem_range.mpr hk, by rw [e1, e2]⟩
theorem sides_nodup (X : List Pt) : (sides (hull X)).Nodup := by
  unfold sides
  rw [List.nodup_iff_pairwise_ne, List.pairwise_map]
  refine List.Pairwise.imp_of_mem ?_ (List.pairwise_lt_range)
  intro i j hi hj hlt e
  rw [Prod.mk.injEq] at e
  have := getD_inj (hull_nodup X) (List.mem_range.mp hi) (List.mem_range.mp hj) e.2
  omega
def rimS (ps : List Pt) : Int := ((sides ps).map fun s => gd s.1 s.2).sum
theorem rimS_sum (ps : List Pt) : rimS ps = sumN (stp ps) ps.length := by
  unfold rimS sides
  rw [List.map_map]
  have : ∀ n, ((List.range n).map ((fun s : Pt × Pt => gd s.1 s.2) ∘ fun k => (pre ps k, cur ps k))).sum = sumN (stp ps) n := by
    intro n
    induction n with
    | zero => rfl
    | succ n ih => rw [List.range_succ, List.map_append, List.sum_append, ih]; simp [sumN, stp]
  exact this _
theorem perm_sum {l m : List Int} (h : l.Perm m) : l.sum = m.sum := by
  induction h with
  | nil => rfl
  | cons x _ ih => rw [List.sum_cons, List.sum_cons, ih]
  | swap x y l => simp only [List.sum_cons]; omega
  | trans _ _ a b => exact a.trans b
theorem gd_swap (p q : Pt) : gd q p = gd p q := by
  unfold gd
  rw [show p.1 - q.1 = -(q.1 - p.1) from by omega, show p.2 - q.2 = -(q.2 - p.2) from by omega, Int.gcd_neg, Int.neg_gcd]
section
variable {X : List Pt} (h0 : X ≠ []) (h3 : 3 ≤ (hull X).length) {m : Mv} (hm : IsMv m)
include h0 h3 hm
theorem act_mem (p : Pt) : act m p ∈ hull ((hull X).map (act m)) ↔ p ∈ hull X := by
  have hd : m.a * m.d - m.b * m.c ≠ 0 := by have : det m ≠ 0 := by rcases hm with q | q <;> omega
                                            exact this
  have af : Aff (act m) m.a m.b m.c m.d := ⟨fun p q => by unfold act; grind, fun p q => by unfold act; grind⟩
  rw [hull_pic af hd, hull_hull]
theorem act_len : (hull ((hull X).map (act m))).length = (hull X).length := by
  have perm : (hull ((hull X).map (act m))).Perm ((hull X).map (act m)) := by
    refine (List.perm_ext_iff_of_nodup (hull_nodup _) ?_).mpr fun y => ?_
    · rw [List.nodup_iff_pairwise_ne, List.pairwise_map]
      exact (List.nodup_iff_pairwise_ne.mp (hull_nodup X)).imp fun hne z => hne (act_inj hm z)
    · constructor
      · exact hull_mem
      · intro hy
        obtain ⟨p, hp, rfl⟩ := List.mem_map.mp hy
        exact (act_mem h0 h3 hm p).mpr hp
  rw [perm.length_eq, List.length_map]
/-- the sides of the picture -/
theorem sides_act {u v : Pt} : (act m u, act m v) ∈ sides (hull ((hull X).map (act m))) ↔ (if det m = 1 then (u, v) else (v, u)) ∈ sides (hull X) := by
  have hn' : (hull X).map (act m) ≠ [] := by simpa using hull_ne h0
  rw [mem_sides hn' (by rw [act_len h0 h3 hm]; exact h3)]
  have es : ∀ p q r, span (act m p) (act m q) (act m r) = det m * span p q r := fun p q r => by unfold span act det; grind
  have all : ∀ a b : Pt, (∀ p ∈ hull ((hull X).map (act m)), 0 ≤ span (act m a) (act m b) p) ↔ ∀ p ∈ hull X, 0 ≤ det m * span a b p := fun a b => by
    constructor
    · intro h p hp
      rw [← es]; exact h _ ((act_mem h0 h3 hm p).mpr hp)
    · intro h p hp
      obtain ⟨q, hq, rfl⟩ := List.mem_map.mp (hull_mem hp)
      rw [es]; exact h q hq
  rw [act_mem h0 h3 hm, act_mem h0 h3 hm, all]
  rcases hm with d1 | d1
  · rw [if_pos d1, mem_sides h0 h3, d1]
    refine ⟨fun ⟨a, b, c, d⟩ => ⟨a, b, fun z => c (by rw [z]), fun p hp => by have := d p hp; omega⟩, fun ⟨a, b, c, d⟩ => ⟨a, b, fun z => c (act_inj (.inl d1) z), fun p hp => by have := d p hp; omega⟩⟩
  · rw [if_neg (by omega), mem_sides h0 h3, d1]
    have sw : ∀ p, span v u p = -span u v p := fun p => by unfold span; grind
    refine ⟨fun ⟨a, b, c, d⟩ => ⟨b, a, fun z => c (by rw [z]), fun p hp => by have := d p hp; rw [sw]; omega⟩, fun ⟨a, b, c, d⟩ => ⟨b, a, fun z => c (act_inj (.inr d1) z.symm), fun p hp => by have := d p hp; rw [sw] at this; omega⟩⟩
def swp (m : Mv) (s : Pt × Pt) : Pt × Pt := if det m = 1 then (act m s.1, act m s.2) else (act m s.2, act m s.1)
theorem sides_perm : (sides (hull ((hull X).map (act m)))).Perm ((sides (hull X)).map (swp m)) := by
  have inj : ∀ a b, swp m a = swp m b → a = b := by
    rintro ⟨a1, a2⟩ ⟨b1, b2⟩ e
    unfold swp at e
    split at e <;> (rw [Prod.mk.injEq] at e; obtain ⟨e1, e2⟩ := e; have f1 := act_inj hm e1; have f2 := act_inj hm e2; dsimp only at f1 f2; rw [f1, f2])
  refine (List.perm_ext_iff_of_nodup (sides_nodup _) ?_).mpr fun s => ?_
  · rw [List.nodup_iff_pairwise_ne, List.pairwise_map]
    exact (List.nodup_iff_pairwise_ne.mp (sides_nodup X)).imp fun hne z => hne (inj _ _ z)
  · have hn' : (hull X).map (act m) ≠ [] := by simpa using hull_ne h0
    rw [List.mem_map]
    constructor
    · intro hs
      obtain ⟨s1, s2⟩ := s
      obtain ⟨m1, m2, _⟩ := (mem_sides hn' (by rw [act_len h0 h3 hm]; exact h3)).mp hs
      obtain ⟨u, hu, rfl⟩ := List.mem_map.mp (hull_mem m1)
      obtain ⟨v, hv, rfl⟩ := List.mem_map.mp (hull_mem m2)
      have := (sides_act h0 h3 hm).mp hs
      refine ⟨_, this, ?_⟩
      unfold swp
      split <;> rfl
    · rintro ⟨⟨u, v⟩, hs, rfl⟩
      unfold swp
      split
      · rename_i d1
        refine (sides_act h0 h3 hm).mpr ?_
        rw [if_pos d1]; exact hs
      · rename_i d1
        refine (sides_act h0 h3 hm).mpr ?_
        rw [if_neg d1]; exact hs
theorem rim_act : rimS (hull ((hull X).map (act m))) = rimS (hull X) := by
  unfold rimS
  rw [perm_sum ((sides_perm h0 h3 hm).map _), List.map_map]
  congr 1
  refine List.map_congr_left fun s _ => ?_
  show gd (swp m s).1 (swp m s).2 = gd s.1 s.2
  unfold swp
  split
  · exact gd_act hm _ _
  · rw [gd_act hm, gd_swap]
end
/-- the table of the way back, turned about -/
def inv (m : Mv) : Mv := ⟨det m * m.d, -(det m * m.c), -(det m * m.b), det m * m.a, 0, 0⟩
theorem inv_dot {m : Mv} (hm : IsMv m) (he : m.e = 0) (hf : m.f = 0) (f p : Pt) : dot (act (inv m) f) (act m p) = dot f p := by
  have sq := hm.sq
  unfold dot act inv
  dsimp only
  rw [he, hf]
  have e : (det m * m.d * f.1 + -(det m * m.c) * f.2 + 0) * (m.a * p.1 + m.b * p.2 + 0) + (-(det m * m.b) * f.1 + det m * m.a * f.2 + 0) * (m.c * p.1 + m.d * p.2 + 0) = (det m * (m.a * m.d - m.b * m.c)) * (f.1 * p.1 + f.2 * p.2) := by grind
  rw [e]
  have : m.a * m.d - m.b * m.c = det m := rfl
  rw [this, sq, Int.one_mul]
theorem dot_uniq {f g p q : Pt} (hc : p.1 * q.2 - p.2 * q.1 ≠ 0) (h1 : dot f p = dot g p) (h2 : dot f q = dot g q) : f = g := by
  unfold dot at h1 h2
  have e1 : (f.1 - g.1) * (p.1 * q.2 - p.2 * q.1) = 0 := by
    have : (f.1 - g.1) * (p.1 * q.2 - p.2 * q.1) = q.2 * ((f.1 * p.1 + f.2 * p.2) - (g.1 * p.1 + g.2 * p.2)) - p.2 * ((f.1 * q.1 + f.2 * q.2) - (g.1 * q.1 + g.2 * q.2)) := by grind
    rw [this, h1, h2]; simp
  have e2 : (f.2 - g.2) * (p.1 * q.2 - p.2 * q.1) = 0 := by
    have : (f.2 - g.2) * (p.1 * q.2 - p.2 * q.1) = p.1 * ((f.1 * q.1 + f.2 * q.2) - (g.1 * q.1 + g.2 * q.2)) - q.1 * ((f.1 * p.1 + f.2 * p.2) - (g.1 * p.1 + g.2 * p.2)) := by grind
    rw [this, h1, h2]; simp
  have z1 := (Int.mul_eq_zero.mp e1).resolve_right hc
  have z2 := (Int.mul_eq_zero.mp e2).resolve_right hc
  exact Prod.ext (by omega) (by omega)
section
variable {X : List Pt} (h0 : X ≠ []) (H : Hrt (hull X))
include h0 H
theorem side_face {u v : Pt} (hs : (u, v) ∈ sides (hull X)) : dot (fp u v) u = 1 ∧ dot (fp u v) v = 1 ∧ u.1 * v.2 - u.2 * v.1 ≠ 0 := by
  unfold sides at hs
  obtain ⟨k, hk, e⟩ := List.mem_map.mp hs
  have hk := List.mem_range.mp hk
  rw [Prod.mk.injEq] at e
  obtain ⟨rfl, rfl⟩ := e
  obtain ⟨m1, m2, ne⟩ := pc h0 H hk
  refine ⟨(face_le h0 H hk m1).2.mpr (.inl rfl), (face_le h0 H hk m2).2.mpr (.inr rfl), ?_⟩
  have := H.2 k hk
  have g := gd_pos ne
  unfold sde stp at this
  omega
theorem mem_fcs_sides {f : Pt} : f ∈ fcs (hull X) ↔ ∃ s ∈ sides (hull X), f = fp s.1 s.2 := by
  rw [mem_fcs h0 H]
  unfold sides
  constructor
  · rintro ⟨k, hk, e⟩; exact ⟨_, List.mem_map_of_mem (List.mem_range.mpr hk), e⟩
  · rintro ⟨s, hs, e⟩
    obtain ⟨k, hk, rfl⟩ := List.mem_map.mp hs
    exact ⟨k, List.mem_range.mp hk, e⟩
/-- the facing field of a heart moved -/
theorem facing_act {m : Mv} (hm : IsMv m) (he : m.e = 0) (hf : m.f = 0) : hull (fcs (hull ((hull X).map (act m)))) = hull ((hull (fcs (hull X))).map (act (inv m))) := by
  have hn' : (hull X).map (act m) ≠ [] := by simpa using hull_ne h0
  have H' := (hrt_act h0 H hm he hf).1
  have di : det (inv m) = det m := by
    have sq := hm.sq
    have : det (inv m) = (det m * det m) * (m.a * m.d - m.b * m.c) := by unfold inv det; grind
    rw [this, sq, Int.one_mul]; rfl
  have hi : IsMv (inv m) := by unfold IsMv; rw [di]; exact hm
  have hd : (inv m).a * (inv m).d - (inv m).b * (inv m).c ≠ 0 := by have : det (inv m) ≠ 0 := by rcases hi with q | q <;> omega
                                                                    exact this
  have af : Aff (act (inv m)) (inv m).a (inv m).b (inv m).c (inv m).d := ⟨fun p q => by unfold act; grind, fun p q => by unfold act; grind⟩
  rw [hull_map_hull af hd]
  refine hull_congr fun f => ?_
  have pm := sides_perm h0 H.1 hm
  have one : ∀ s ∈ sides (hull X), fp (swp m s).1 (swp m s).2 = act (inv m) (fp s.1 s.2) := fun s hs => by
    have hs' : swp m s ∈ sides (hull ((hull X).map (act m))) := pm.mem_iff.mpr (List.mem_map_of_mem hs)
    obtain ⟨a1, a2, _⟩ := side_face h0 H (u := s.1) (v := s.2) hs
    obtain ⟨b1, b2, b3⟩ := side_face hn' H' (u := (swp m s).1) (v := (swp m s).2) hs'
    refine dot_uniq b3 ?_ ?_
    · rw [b1]
      unfold swp
      split
      · rw [inv_dot hm he hf, a1]
      · rw [inv_dot hm he hf, a2]
    · rw [b2]
      unfold swp
      split
      · rw [inv_dot hm he hf, a2]
      · rw [inv_dot hm he hf, a1]
  rw [mem_fcs_sides hn' H', List.mem_map]
  constructor
  · rintro ⟨s', hs', rfl⟩
    obtain ⟨s, hs, rfl⟩ := List.mem_map.mp (pm.mem_iff.mp hs')
    exact ⟨_, (mem_fcs_sides h0 H).mpr ⟨s, hs, rfl⟩, (one s hs).symm⟩
  · rintro ⟨g, hg, rfl⟩
    obtain ⟨s, hs, rfl⟩ := (mem_fcs_sides h0 H).mp hg
    exact ⟨swp m s, pm.mem_iff.mpr (List.mem_map_of_mem hs), (one s hs).symm⟩
end
/-- from the first corner on -/
def tri (ps : List Pt) (j : Nat) : Int := span (cur ps 0) (cur ps (j + 1)) (cur ps (j + 2))
theorem tri_sum (ps : List Pt) : ∀ j, j + 1 < ps.length → sumN (tri ps) j + ((cur ps 0).1 * (cur ps (j + 1)).2 - (cur ps 0).2 * (cur ps (j + 1)).1) = sumN (sde ps) (j + 2) - sde ps 0
  | 0, h => by
    show 0 + ((cur ps 0).1 * (cur ps 1).2 - (cur ps 0).2 * (cur ps 1).1) = (0 + sde ps 0 + sde ps 1) - sde ps 0
    have : pre ps 1 = cur ps 0 := by unfold pre cur Hull.pv; rw [if_neg (by omega)]
    unfold sde
    rw [this]; omega
  | j + 1, h => by
    have ih := tri_sum ps j (by omega)
    show sumN (tri ps) j + tri ps j + _ = sumN (sde ps) (j + 2) + sde ps (j + 2) - sde ps 0
    have e : pre ps (j + 2) = cur ps (j + 1) := by unfold pre cur Hull.pv; rw [if_neg (by omega)]; rfl
    have e2 : sde ps (j + 2) = (cur ps (j + 1)).1 * (cur ps (j + 2)).2 - (cur ps (j + 1)).2 * (cur ps (j + 2)).1 := by unfold sde; rw [e]
    have e3 : tri ps j = ((cur ps (j + 1)).1 * (cur ps (j + 2)).2 - (cur ps (j + 1)).2 * (cur ps (j + 2)).1) + ((cur ps 0).1 * (cur ps (j + 1)).2 - (cur ps 0).2 * (cur ps (j + 1)).1) - ((cur ps 0).1 * (cur ps (j + 2)).2 - (cur ps 0).2 * (cur ps (j + 2)).1) := by unfold tri span; grind
    rw [e2, e3]
    have e4 : j + 1 + 1 = j + 2 := rfl
    rw [e4]
    omega
theorem tri_all {ps : List Pt} (h : 3 ≤ ps.length) : sumN (tri ps) (ps.length - 2) = sumN (sde ps) ps.length := by
  have := tri_sum ps (ps.length - 2) (by omega)
  rw [show ps.length - 2 + 2 = ps.length from by omega] at this
  have e : sde ps 0 = (cur ps (ps.length - 2 + 1)).1 * (cur ps 0).2 - (cur ps (ps.length - 2 + 1)).2 * (cur ps 0).1 := by
    unfold sde
    have : pre ps 0 = cur ps (ps.length - 2 + 1) := by unfold pre cur Hull.pv; rw [if_pos rfl, show ps.length - 2 + 1 = ps.length - 1 from by omega]
    rw [this]
  have e2 : (cur ps (ps.length - 2 + 1)).1 * (cur ps 0).2 - (cur ps (ps.length - 2 + 1)).2 * (cur ps 0).1 = -((cur ps 0).1 * (cur ps (ps.length - 2 + 1)).2 - (cur ps 0).2 * (cur ps (ps.length - 2 + 1)).1) := by grind
  omega
theorem hrt_sum {ps : List Pt} (H : Hrt ps) : sumN (sde ps) ps.length = rimS ps := by
  rw [rimS_sum]
  have : ∀ n, n ≤ ps.length → sumN (sde ps) n = sumN (stp ps) n := by
    intro n
    induction n with
    | zero => intro _; rfl
    | succ n ih => intro hn; show sumN (sde ps) n + sde ps n = sumN (stp ps) n + stp ps n; rw [ih (by omega), H.2 n (by omega)]
  exact this _ (Nat.le_refl _)
/-! ### all hearts of the eight points -/
def subs : List Pt → List (List Pt)
  | [] => [[]]
  | a :: l => subs l ++ (subs l).map (a :: ·)
theorem filter_subs (p : Pt → Bool) : ∀ l : List Pt, l.filter p ∈ subs l
  | [] => by simp [subs]
  | a :: l => by
    unfold subs
    rw [List.filter_cons]
    split
    · exact List.mem_append_right _ (List.mem_map_of_mem (filter_subs p l))
    · exact List.mem_append_left _ (filter_subs p l)
def gdC (p q : Pt) : Int := ((Int.gcd (q.1 - p.1) (q.2 - p.2) : Nat) : Int)
theorem gd_c (p q : Pt) : gd p q = gdC p q := by unfold gd gdC; rfl
def rimC (ps : List Pt) : Int := ((sides ps).map fun s => gdC s.1 s.2).sum
theorem rim_c (ps : List Pt) : rimS ps = rimC ps := by
  unfold rimS rimC
  congr 1
  exact List.map_congr_left fun s _ => gd_c _ _
def fcsC (ps : List Pt) : List Pt := (sides ps).map fun s => ((s.2.2 - s.1.2) / gdC s.1 s.2, (s.1.1 - s.2.1) / gdC s.1 s.2)
theorem fcs_c (ps : List Pt) : fcs ps = fcsC ps := by
  unfold fcs fcsC sides
  rw [List.map_map]
  refine List.map_congr_left fun k _ => ?_
  show fp _ _ = _
  unfold fp
  rw [gd_c]; rfl
def hrtC (ps : List Pt) : Bool := decide (3 ≤ ps.length) && (sides ps).all fun s => s.1.1 * s.2.2 - s.1.2 * s.2.1 == gdC s.1 s.2
theorem hrt_c {ps : List Pt} (H : Hrt ps) : hrtC ps = true := by
  unfold hrtC
  rw [decide_eq_true H.1, Bool.true_and, List.all_eq_true]
  intro s hs
  unfold sides at hs
  obtain ⟨k, hk, rfl⟩ := List.mem_map.mp hs
  have := H.2 k (List.mem_range.mp hk)
  unfold sde stp at this
  rw [gd_c] at this
  rw [beq_iff_eq]; exact this
def twB (Y : List Pt) : Bool := !hrtC (hull Y) || (rimC (hull Y) + rimC (hull (fcsC (hull Y))) == 12)
theorem twelve_all : (subs nb).all twB = true := by decide +kernel
theorem twelve {X : List Pt} (hX : ∀ p ∈ X, p ∈ nb) (H : Hrt (hull X)) : rimS (hull X) + rimS (hull (fcs (hull X))) = 12 := by
  have e : hull X = hull (nb.filter fun p => decide (p ∈ X)) := hull_congr fun p => by
    rw [List.mem_filter, decide_eq_true_iff]
    exact ⟨fun h => ⟨hX p h, h⟩, fun h => h.2⟩
  rw [e] at H ⊢
  have := List.all_eq_true.mp twelve_all _ (filter_subs (fun p => decide (p ∈ X)) nb)
  unfold twB at this
  rw [hrt_c H] at this
  rw [rim_c, rim_c, fcs_c]
  simpa using this
end Hrt
/-! the order of data that are made of whole numbers alone, by a row of numbers -/
namespace Hull
open DL PySem PySem.Spec PyProof.Rows L2
theorem lex_nil (l : List Int) : PyProof.Rows.lexLt itemOrd (l.map Sum.inl) [] = false := by
  cases l <;> (unfold PyProof.Rows.lexLt; rfl)
theorem lex_nil2 (a : Int) (l : List Int) : PyProof.Rows.lexLt itemOrd [] ((a :: l).map Sum.inl) = true := by
  unfold PyProof.Rows.lexLt; rfl
theorem lex_ints : ∀ a b : List Int, PyProof.Rows.lexLt itemOrd (a.map Sum.inl) (b.map Sum.inl) = decide (a < b)
  | a, [] => by rw [List.map_nil, lex_nil]; simp
  | [], b :: bs => by rw [List.map_nil, lex_nil2]; simp
  | a :: as, b :: bs => by
    rw [List.map_cons, List.map_cons, lex_int, lex_ints as bs, Bool.eq_iff_iff]
    simp only [Bool.or_eq_true, Bool.and_eq_true, Bool.not_eq_true', decide_eq_true_eq, decide_eq_false_iff_not, List.cons_lt_cons_iff]
    constructor
    · rintro (h | ⟨h1, h2⟩)
      · exact .inl h
      · by_cases e : a < b
        · exact .inl e
        · exact .inr ⟨by omega, h2⟩
    · rintro (h | ⟨h1, h2⟩)
      · exact .inl h
      · exact .inr ⟨by omega, h2⟩
/-- data of one kind, told by rows of numbers -/
structure Kd {α : Type} (f : α → Dat) (key : α → List Int) : Prop where
  inj : ∀ x y, key x = key y → x = y
  tok : ∀ x, W.keyToks (toPy (f x)) = (key x).map Sum.inl
  al : ∀ x y, W.alike (toPy (f x)) (toPy (f y)) = true
  sh : ∀ x, shp 60 (f x) = true
  nn : ∀ x, toPy (f x) ≠ .none
  so : (∀ x, ∃ a r, toPy (f x) = .tuple (a :: r)) ∨ ∀ x xs, toPy (f x) ≠ .tuple xs
section
variable {α : Type} {f : α → Dat} {key : α → List Int} (D : Kd f key)
include D
theorem Kd.lt (x y : α) : ltD (f x) (f y) = decide (key x < key y) := by
  show PyProof.Rows.lexLt itemOrd (W.keyToks (toPy (f x))) (W.keyToks (toPy (f y))) = _
  rw [D.tok, D.tok, lex_ints]
theorem Kd.shL (xs : List α) : shpL 63 (xs.map f) = true := by
  induction xs with
  | nil => rfl
  | cons x xs ih =>
    rw [List.map_cons]
    unfold shpL
    rw [ih, shp_up (by decide : 60 ≤ 63) (D.sh x)]; rfl
theorem Kd.alk (xs : List α) : AlkOk (xs.map f) := by
  refine ⟨D.shL xs, ?_, ?_⟩
  · intro x hx y hy
    rw [toPyL_map] at hx hy
    obtain ⟨a, ha, rfl⟩ := List.mem_map.mp hx
    obtain ⟨b, hb, rfl⟩ := List.mem_map.mp hy
    obtain ⟨p, _, rfl⟩ := List.mem_map.mp ha
    obtain ⟨q, _, rfl⟩ := List.mem_map.mp hb
    exact D.al p q
  · intro x hx
    rw [toPyL_map] at hx
    obtain ⟨a, ha, rfl⟩ := List.mem_map.mp hx
    obtain ⟨p, _, rfl⟩ := List.mem_map.mp ha
    exact D.nn p
theorem Kd.srt (xs : List α) : SrtOk (xs.map f) := by
  refine ⟨D.shL xs, (D.alk xs).al.1, ?_⟩
  have mem : ∀ d ∈ toPyL (xs.map f), ∃ x, d = toPy (f x) := fun d hd => by
    rw [toPyL_map] at hd
    obtain ⟨a, ha, rfl⟩ := List.mem_map.mp hd
    obtain ⟨p, _, rfl⟩ := List.mem_map.mp ha
    exact ⟨p, rfl⟩
  rcases D.so with h | h
  · refine .inl fun d hd => ?_
    obtain ⟨x, rfl⟩ := mem d hd
    exact h x
  · refine .inr fun d hd => ?_
    obtain ⟨x, rfl⟩ := mem d hd
    exact ⟨D.nn x, h x⟩
theorem Kd.min : ∀ (xs : List α) (x : α), ∃ m, minO (f x) (xs.map f) = f m ∧ m ∈ x :: xs ∧ ∀ y ∈ x :: xs, ¬ key y < key m
  | [], x => ⟨x, rfl, by simp, fun y hy => by rw [List.mem_singleton.mp hy]; exact List.lt_irrefl _⟩
  | y :: xs, x => by
    have step : minO (f x) ((y :: xs).map f) = minO (if key y < key x then f y else f x) (xs.map f) := by
      rw [List.map_cons]
      unfold minO
      rw [List.foldl_cons, D.lt]
      simp only [decide_eq_true_eq]
    rw [step]
    by_cases h : key y < key x
    · rw [if_pos h]
      obtain ⟨m, e, hm, hl⟩ := Kd.min xs y
      refine ⟨m, e, by simp only [List.mem_cons] at hm ⊢; rcases hm with hm | hm <;> simp [hm], fun z hz => ?_⟩
      simp only [List.mem_cons] at hz
      rcases hz with rfl | hz
      · intro c
        exact hl y (by simp) (List.lt_trans h c)
      · exact hl z (by simp only [List.mem_cons]; exact hz)
    · rw [if_neg h]
      obtain ⟨m, e, hm, hl⟩ := Kd.min xs x
      refine ⟨m, e, by simp only [List.mem_cons] at hm ⊢; rcases hm with hm | hm <;> simp [hm], fun z hz => ?_⟩
      simp only [List.mem_cons] at hz
      rcases hz with rfl | rfl | hz
      · exact hl z (by simp)
      · intro c
        have hx := hl x (by simp)
        have le1 : key x ≤ key z := List.not_lt.mp h
        exact hx (List.lt_of_le_of_lt le1 c)
      · exact hl z (by simp [hz])
/-- min of a list -/
theorem Kd.mn {xs : List α} (h0 : xs ≠ []) {P : Dat → List Dat → Prop} (h : ∀ d ds m, xs.map f = d :: ds → AlkOk (d :: ds) → minO d ds = f m → m ∈ xs → (∀ y ∈ xs, ¬ key y < key m) → P d ds) : match xs.map f with | d :: ds => P d ds | [] => False := by
  match xs, h0 with
  | x :: xs, _ =>
    obtain ⟨m, e1, e2, e3⟩ := D.min xs x
    exact h _ _ m rfl (D.alk (x :: xs)) e1 e2 e3
theorem Kd.sort (xs : List α) : ∃ ys : List α, sortD (xs.map f) = ys.map f ∧ ys.Perm xs ∧ ys.Pairwise fun a b => ¬ key b < key a := by
  refine ⟨xs.mergeSort (fun a b => !ltD (f b) (f a)), ?_, List.mergeSort_perm _ _, ?_⟩
  · unfold sortD
    rw [← List.map_mergeSort (l := xs) (r := fun a b => !ltD (f b) (f a)) (s := fun a b => !ltD b a) (f := f) (fun a _ b _ => rfl)]
  · have le : ∀ a b : α, (!ltD (f b) (f a)) = true ↔ ¬ key b < key a := fun a b => by
      rw [D.lt, Bool.not_eq_true', decide_eq_false_iff_not]
    have pw := List.pairwise_mergeSort (le := fun a b : α => !ltD (f b) (f a)) (fun a b c h1 h2 => by
      rw [le] at h1 h2 ⊢
      exact List.not_lt.mpr (List.le_trans (List.not_lt.mp h1) (List.not_lt.mp h2))) (fun a b => by
      rw [Bool.or_eq_true, le, le]
      rcases List.le_total (key a) (key b) with h | h
      · exact .inl (List.not_lt.mpr h)
      · exact .inr (List.not_lt.mpr h)) xs
    exact pw.imp fun {a b} h => (le a b).mp h
theorem Kd.eq_of {x y : α} (h1 : ¬ key x < key y) (h2 : ¬ key y < key x) : x = y := D.inj x y (List.le_antisymm (List.not_lt.mp h2) (List.not_lt.mp h1))
end
/-! points, lists of points, moves, both together -/
def kP (p : Pt) : List Int := [1, p.1, 1, p.2, 0]
def kL : List Pt → List Int
  | [] => [0]
  | p :: ps => 1 :: (kP p ++ kL ps)
def kM (m : Mov.Mv) : List Int := [1, m.a, 1, m.b, 1, m.c, 1, m.d, 1, m.e, 1, m.f, 0]
def kLM (x : List Pt × Mov.Mv) : List Int := 1 :: (kL x.1 ++ (1 :: (kM x.2 ++ [0])))
def lm (x : List Pt × Mov.Mv) : Dat := .tup [.lst (x.1.map pt), Mov.mv x.2]
theorem tok_pt (p : Pt) : W.keyToks (toPy (pt p)) = (kP p).map Sum.inl := by
  show W.keyToks (PyData.tuple [PyData.int p.1, PyData.int p.2]) = _
  simp only [W.keyToks, W.keyToksAll]; rfl
theorem tok_pts : ∀ ps : List Pt, W.keyToksAll (toPyL (ps.map pt)) = (kL ps).map Sum.inl
  | [] => by rw [List.map_nil]; unfold toPyL W.keyToksAll; rfl
  | p :: ps => by
    rw [List.map_cons]
    unfold toPyL W.keyToksAll
    rw [tok_pt, tok_pts ps]
    show _ = (1 :: (kP p ++ kL ps)).map Sum.inl
    rw [List.map_cons, List.map_append]
theorem tok_mv (m : Mov.Mv) : W.keyToks (toPy (Mov.mv m)) = (kM m).map Sum.inl := by
  show W.keyToks (PyData.tuple [PyData.int m.a, PyData.int m.b, PyData.int m.c, PyData.int m.d, PyData.int m.e, PyData.int m.f]) = _
  simp only [W.keyToks, W.keyToksAll]; rfl
theorem kL_inj : ∀ {ps qs : List Pt}, kL ps = kL qs → ps = qs
  | [], [], _ => rfl
  | [], q :: qs, h => by unfold kL at h; simp at h
  | p :: ps, [], h => by unfold kL at h; simp at h
  | p :: ps, q :: qs, h => by
    unfold kL kP at h
    simp only [List.cons_append, List.nil_append, List.cons.injEq, true_and] at h
    rw [Prod.ext h.1 h.2.1, kL_inj h.2.2]
theorem kL_pre : ∀ {ps qs : List Pt} {r s : List Int}, kL ps ++ r = kL qs ++ s → ps = qs ∧ r = s
  | [], [], r, s, h => ⟨rfl, by unfold kL at h; simpa using h⟩
  | [], q :: qs, r, s, h => by unfold kL at h; simp at h
  | p :: ps, [], r, s, h => by unfold kL at h; simp at h
  | p :: ps, q :: qs, r, s, h => by
    unfold kL kP at h
    simp only [List.cons_append, List.nil_append, List.cons.injEq, true_and, List.append_assoc] at h
    obtain ⟨e1, e2⟩ := kL_pre h.2.2
    exact ⟨by rw [Prod.ext h.1 h.2.1, e1], e2⟩
theorem kM_inj {m n : Mov.Mv} (h : kM m = kM n) : m = n := by
  unfold kM at h
  simp only [List.cons.injEq, true_and, and_true] at h
  obtain ⟨h1, h2, h3, h4, h5, h6⟩ := h
  cases m; cases n
  simp_all
theorem alike_pts : ∀ ps qs : List Pt, W.alikeAll (toPyL (ps.map pt)) (toPyL (qs.map pt)) = true
  | [], qs => by rw [List.map_nil]; unfold toPyL W.alikeAll; cases toPyL (qs.map pt) <;> rfl
  | p :: ps, [] => by rw [List.map_nil, List.map_cons]; unfold toPyL W.alikeAll; rfl
  | p :: ps, q :: qs => by
    rw [List.map_cons, List.map_cons]
    unfold toPyL W.alikeAll
    rw [alike_pts ps qs]
    rfl
theorem shp_pts60 : ∀ (n : Nat) (ps : List Pt), shpL (n + 1) (ps.map pt) = true
  | n, [] => by unfold List.map shpL; rfl
  | n, p :: ps => by
    rw [List.map_cons]
    unfold shpL
    rw [shp_pts60 n ps]
    cases n <;> rfl
theorem kd_pt : Kd pt kP := ⟨fun x y h => by unfold kP at h; simp only [List.cons.injEq, true_and, and_true] at h; exact Prod.ext h.1 h.2, tok_pt, fun x y => rfl, fun x => rfl, fun x h => (nomatch h), .inl fun x => ⟨_, _, rfl⟩⟩
theorem kd_pts : Kd (fun ps : List Pt => Dat.lst (ps.map pt)) kL := ⟨fun x y h => kL_inj h, fun x => by
    show W.keyToks (toPy (Dat.lst (x.map pt))) = _
    unfold toPy W.keyToks
    exact tok_pts x, fun x y => by
    show W.alike (toPy (Dat.lst (x.map pt))) (toPy (Dat.lst (y.map pt))) = true
    unfold toPy W.alike
    exact alike_pts x y, fun x => shp_pts60 58 x, fun x h => (by unfold toPy at h; exact nomatch h), .inr fun x xs h => (by unfold toPy at h; exact nomatch h)⟩
theorem kd_mv : Kd Mov.mv kM := ⟨fun x y h => kM_inj h, tok_mv, fun x y => rfl, fun x => rfl, fun x h => (nomatch h), .inl fun x => ⟨_, _, rfl⟩⟩
theorem kd_lm : Kd lm kLM := ⟨fun x y h => by
    unfold kLM at h
    simp only [List.cons.injEq, true_and] at h
    obtain ⟨e1, e2⟩ := kL_pre h
    simp only [List.cons.injEq, true_and] at e2
    exact Prod.ext e1 (kM_inj (List.append_cancel_right e2)), fun x => by
    show W.keyToks (toPy (Dat.tup [.lst (x.1.map pt), Mov.mv x.2])) = _
    unfold toPy toPyL toPyL toPyL W.keyToks W.keyToksAll W.keyToksAll W.keyToksAll
    rw [tok_mv]
    unfold toPy W.keyToks
    rw [tok_pts]
    unfold kLM
    simp, fun x y => by
    show W.alike (toPy (Dat.tup [.lst (x.1.map pt), Mov.mv x.2])) (toPy (Dat.tup [.lst (y.1.map pt), Mov.mv y.2])) = true
    have h := kd_mv.al x.2 y.2
    unfold toPy toPyL toPyL toPyL W.alike W.alikeAll W.alikeAll W.alikeAll
    rw [h]
    have h2 := kd_pts.al x.1 y.1
    rw [show W.alike (toPy (Dat.lst (x.1.map pt))) (toPy (Dat.lst (y.1.map pt))) = true from h2]; rfl, fun x => by
    show shp 60 (Dat.tup [.lst (x.1.map pt), Mov.mv x.2]) = true
    unfold shp shpL shpL shpL
    have h := shp_pts60 57 x.1
    have h2 : shp 59 (Dat.lst (x.1.map pt)) = true := h
    rw [h2]; rfl, fun x h => by
    have h : toPy (Dat.tup [.lst (x.1.map pt), Mov.mv x.2]) = .none := h
    (unfold toPy at h; exact (nomatch h)), .inl fun x => by
    refine ⟨toPy (.lst (x.1.map pt)), [toPy (Mov.mv x.2)], ?_⟩
    show toPy (Dat.tup [.lst (x.1.map pt), Mov.mv x.2]) = _
    conv => lhs; unfold toPy
    unfold toPyL toPyL toPyL; rfl⟩
/-- the order of two pairs -/
theorem kL_lt : ∀ (ps qs : List Pt) (r s : List Int), kL ps ++ r < kL qs ++ s ↔ kL ps < kL qs ∨ (ps = qs ∧ r < s)
  | [], [], r, s => by
    unfold kL
    simp [List.cons_lt_cons_iff]
  | [], q :: qs, r, s => by
    unfold kL
    simp [List.cons_lt_cons_iff]
  | p :: ps, [], r, s => by
    unfold kL
    simp [List.cons_lt_cons_iff]
  | p :: ps, q :: qs, r, s => by
    have ih := kL_lt ps qs r s
    show 1 :: (kP p ++ kL ps) ++ r < 1 :: (kP q ++ kL qs) ++ s ↔ 1 :: (kP p ++ kL ps) < 1 :: (kP q ++ kL qs) ∨ _
    obtain ⟨a, b⟩ := p
    obtain ⟨c, d⟩ := q
    unfold kP
    simp only [List.cons_append, List.nil_append, List.append_assoc, List.cons_lt_cons_iff, ih, List.cons.injEq, Prod.mk.injEq, Int.lt_irrefl, false_or, true_and]
    constructor
    · rintro (h | ⟨h1, h | ⟨h2, h | h⟩⟩)
      · exact .inl (.inl h)
      · exact .inl (.inr ⟨h1, .inl h⟩)
      · exact .inl (.inr ⟨h1, .inr ⟨h2, h⟩⟩)
      · exact .inr ⟨⟨⟨h1, h2⟩, h.1⟩, h.2⟩
    · rintro ((h | ⟨h1, h | ⟨h2, h⟩⟩) | ⟨⟨⟨h1, h2⟩, h3⟩, h4⟩)
      · exact .inl h
      · exact .inr ⟨h1, .inl h⟩
      · exact .inr ⟨h1, .inr ⟨h2, .inl h⟩⟩
      · exact .inr ⟨h1, .inr ⟨h2, .inr ⟨h3, h4⟩⟩⟩
theorem kLM_lt (x y : List Pt × Mov.Mv) : kLM x < kLM y ↔ kL x.1 < kL y.1 ∨ (x.1 = y.1 ∧ kM x.2 < kM y.2) := by
  unfold kLM
  rw [List.cons_lt_cons_iff]
  simp only [Int.lt_irrefl, false_or, true_and]
  rw [kL_lt]
  have : 1 :: (kM x.2 ++ [0]) < 1 :: (kM y.2 ++ [0]) ↔ kM x.2 < kM y.2 := by
    unfold kM
    simp only [List.cons_append, List.nil_append, List.cons_lt_cons_iff, Int.lt_irrefl, false_or, true_and, List.lt_irrefl, and_false, or_false]
  rw [this]
end Hull
namespace Hull
open DL PySem PySem.Spec PyProof.Rows L2
theorem Kd.sort_perm {α : Type} {f : α → Dat} {key : α → List Int} (D : Kd f key) {xs ys : List α} (h : xs.Perm ys) : sortD (xs.map f) = sortD (ys.map f) := by
  obtain ⟨a, e1, p1, w1⟩ := D.sort xs
  obtain ⟨b, e2, p2, w2⟩ := D.sort ys
  rw [e1, e2]
  have : a = b := List.Perm.eq_of_pairwise (fun x y _ _ h1 h2 => D.eq_of h2 h1) w1 w2 ((p1.trans h).trans p2.symm)
  rw [this]
end Hull
/-! stands and forms -/
namespace Frm
open DL PySem PySem.Spec PyProof.Rows L2 Hull Mov Hrt
/-- a stand: h to (0, 0), n to its right, f above, as far left as can be -/
structure Std (m : Mv) (h n f : Pt) : Prop where
  mv : IsMv m
  at0 : act m h = (0, 0)
  n2 : (act m n).2 = 0
  n1 : 0 < (act m n).1
  f1 : 0 ≤ (act m f).1
  f2 : (act m f).1 < (act m f).2
noncomputable def st (h n f : Pt) : Mv :=
  if (act (lv h n) f).2 < 0 then ⟨(lv h n).a - (act (lv h n) f).1 / (-(act (lv h n) f).2) * (-(lv h n).c), (lv h n).b - (act (lv h n) f).1 / (-(act (lv h n) f).2) * (-(lv h n).d), -(lv h n).c, -(lv h n).d, (lv h n).e - (act (lv h n) f).1 / (-(act (lv h n) f).2) * (-(lv h n).f), -(lv h n).f⟩
  else ⟨(lv h n).a - (act (lv h n) f).1 / (act (lv h n) f).2 * (lv h n).c, (lv h n).b - (act (lv h n) f).1 / (act (lv h n) f).2 * (lv h n).d, (lv h n).c, (lv h n).d, (lv h n).e - (act (lv h n) f).1 / (act (lv h n) f).2 * (lv h n).f, (lv h n).f⟩
theorem lean_act (m : Mv) (z s : Int) (p : Pt) : act ⟨m.a - z * (s * m.c), m.b - z * (s * m.d), s * m.c, s * m.d, m.e - z * (s * m.f), s * m.f⟩ p = ((act m p).1 - z * (s * (act m p).2), s * (act m p).2) := by
  unfold act
  refine Prod.ext ?_ ?_ <;> dsimp only <;> grind
theorem lean_det (m : Mv) (z s : Int) : det ⟨m.a - z * (s * m.c), m.b - z * (s * m.d), s * m.c, s * m.d, m.e - z * (s * m.f), s * m.f⟩ = s * det m := by
  unfold det; dsimp only; grind
theorem std_lean {m : Mv} {h n f : Pt} {s : Int} (hs : s = 1 ∨ s = -1) (im : IsMv m) (a0 : act m h = (0, 0)) (n1 : 0 < (act m n).1) (n2 : (act m n).2 = 0) (f2 : 0 < s * (act m f).2) :
    Std ⟨m.a - (act m f).1 / (s * (act m f).2) * (s * m.c), m.b - (act m f).1 / (s * (act m f).2) * (s * m.d), s * m.c, s * m.d, m.e - (act m f).1 / (s * (act m f).2) * (s * m.f), s * m.f⟩ h n f := by
  have e := lean_act m ((act m f).1 / (s * (act m f).2)) s
  refine ⟨?_, ?_, ?_, ?_, ?_, ?_⟩
  · unfold IsMv
    rw [lean_det]
    rcases hs with rfl | rfl <;> rcases im with q | q <;> omega
  · rw [e, a0]; simp
  · rw [e, n2]; simp
  · rw [e, n2]; simp; exact n1
  · rw [e]
    have := Int.emod_nonneg (act m f).1 (show s * (act m f).2 ≠ 0 by omega)
    have h2 := Int.mul_ediv_add_emod (act m f).1 (s * (act m f).2)
    dsimp only
    rw [Int.mul_comm]; omega
  · rw [e]
    have := Int.emod_lt_of_pos (act m f).1 f2
    have h2 := Int.mul_ediv_add_emod (act m f).1 (s * (act m f).2)
    dsimp only
    rw [Int.mul_comm ((act m f).1 / _)]; omega
theorem std_ok {h n f : Pt} (hn : h ≠ n) (hs : span h n f ≠ 0) : Std (st h n f) h n f := by
  obtain ⟨s, t, L, _, _⟩ := lv_ok hn
  have im : IsMv (lv h n) := .inl L.mv
  have a0 := L.at0
  have a1 := L.at1
  have sp := span_lv (R := f) hn
  have f0 : (act (lv h n) f).2 ≠ 0 := fun z => hs (by rw [sp, z, Int.mul_zero])
  have n1 : 0 < (act (lv h n) n).1 := by rw [a1]; exact L.g0
  have n2 : (act (lv h n) n).2 = 0 := by rw [a1]
  unfold st
  split
  · rename_i z
    have q := std_lean (m := lv h n) (s := -1) (.inr rfl) im a0 n1 n2 (f := f) (by omega)
    simp only [show ∀ x : Int, -1 * x = -x from fun x => by omega] at q
    exact q
  · rename_i z
    have q := std_lean (m := lv h n) (s := 1) (.inl rfl) im a0 n1 n2 (f := f) (by omega)
    simp only [Int.one_mul] at q
    exact q
theorem std_uniq {m m' : Mv} {h n f : Pt} (a : Std m h n f) (b : Std m' h n f) : m = m' := by
  have key : ∀ p, act (thn (back m) m') (act m p) = act m' p := fun p => by rw [act_thn, back_act a.mv]
  have ik := (a.mv.back).thn b.mv
  generalize thn (back m) m' = k at *
  have k0 := key h
  have kn := key n
  have kf := key f
  rw [a.at0, b.at0] at k0
  have e0 : k.e = 0 := by have := congrArg Prod.fst k0; unfold act at this; dsimp only at this; omega
  have f0 : k.f = 0 := by have := congrArg Prod.snd k0; unfold act at this; dsimp only at this; omega
  obtain ⟨g, hg⟩ : ∃ g, g = (act m n).1 := ⟨_, rfl⟩
  have en : act m n = (g, 0) := Prod.ext hg.symm a.n2
  rw [en] at kn
  have g0 := a.n1
  rw [← hg] at g0
  have kn1 : k.a * g = (act m' n).1 := by have := congrArg Prod.fst kn; unfold act at this; dsimp only at this; rw [e0] at this; unfold act; dsimp only; omega
  have kn2 : k.c * g = 0 := by have := congrArg Prod.snd kn; have q := b.n2; unfold act at this q; dsimp only at this q; rw [f0] at this; omega
  have c0 : k.c = 0 := by rcases Int.mul_eq_zero.mp kn2 with z | z <;> omega
  have apos : 0 < k.a := by
    have := b.n1
    rw [← kn1] at this
    refine Int.not_le.mp fun z => ?_
    have := Int.mul_nonpos_of_nonpos_of_nonneg z (Int.le_of_lt g0)
    omega
  have kd : k.a * k.d = 1 ∨ k.a * k.d = -1 := by
    have := ik
    unfold IsMv det at this
    rw [c0, Int.mul_zero] at this
    omega
  obtain ⟨x, hx⟩ : ∃ x, x = (act m f).1 := ⟨_, rfl⟩
  obtain ⟨y, hy⟩ : ∃ y, y = (act m f).2 := ⟨_, rfl⟩
  have ef : act m f = (x, y) := Prod.ext hx.symm hy.symm
  rw [ef] at kf
  have q1 := a.f1
  have q2 := a.f2
  rw [← hx] at q1 q2
  rw [← hy] at q2
  have kf1 : k.a * x + k.b * y = (act m' f).1 := by have := congrArg Prod.fst kf; unfold act at this; dsimp only at this; rw [e0] at this; unfold act; dsimp only; omega
  have kf2 : k.d * y = (act m' f).2 := by have := congrArg Prod.snd kf; unfold act at this; dsimp only at this; rw [f0, c0] at this; unfold act; dsimp only; omega
  have r1 := b.f1
  have r2 := b.f2
  rw [← kf1] at r1 r2
  rw [← kf2] at r2
  have dpos : 0 < k.d := by
    refine Int.not_le.mp fun z => ?_
    have := Int.mul_nonpos_of_nonpos_of_nonneg z (show 0 ≤ y by omega)
    omega
  have ap : k.a = 1 ∧ k.d = 1 := by
    have m1 := Int.mul_pos apos dpos
    have kd : k.a * k.d = 1 := by omega
    have ad : k.a ∣ 1 := ⟨k.d, kd.symm⟩
    have dd : k.d ∣ 1 := ⟨k.a, by rw [Int.mul_comm]; exact kd.symm⟩
    exact ⟨Int.eq_one_of_dvd_one (by omega) ad, Int.eq_one_of_dvd_one (by omega) dd⟩
  rw [ap.1, ap.2] at r2
  rw [ap.1] at r1
  have b0 : k.b = 0 := by
    rcases Int.lt_trichotomy k.b 0 with z | z | z
    · have := Int.mul_le_mul_of_nonneg_right (show k.b ≤ -1 by omega) (show 0 ≤ y by omega)
      omega
    · exact z
    · have := Int.mul_le_mul_of_nonneg_right (show 1 ≤ k.b by omega) (show 0 ≤ y by omega)
      omega
  have ek : ∀ p, act k p = p := fun p => by
    unfold act
    rw [ap.1, ap.2, b0, c0, e0, f0]
    refine Prod.ext ?_ ?_ <;> dsimp only <;> omega
  have all : ∀ p, act m p = act m' p := fun p => by rw [← key p, ek]
  exact mv_three (all _) (all _) (all _)
theorem Std.act {m t : Mv} (it : IsMv t) {h n f : Pt} (a : Std m h n f) : Std (thn (back t) m) (act t h) (act t n) (act t f) := by
  have e : ∀ p, Mov.act (thn (back t) m) (Mov.act t p) = Mov.act m p := fun p => by rw [act_thn, back_act it]
  exact ⟨it.back.thn a.mv, by rw [e]; exact a.at0, by rw [e]; exact a.n2, by rw [e]; exact a.n1, by rw [e]; exact a.f1, by rw [e]; exact a.f2⟩
/-! all stands of a field -/
def pre2 (ps : List Pt) (k : Nat) : Pt := ps.getD (Hull.pv ps.length (Hull.pv ps.length k)) (0, 0)
noncomputable def stK (ps : List Pt) (k : Nat) : List Mv := [st (pre ps k) (cur ps k) (pre2 ps k), st (pre ps k) (pre2 ps k) (cur ps k)]
noncomputable def stL (ps : List Pt) : List Mv := (List.range ps.length).flatMap (stK ps)
structure Trip (ps : List Pt) (h n f : Pt) : Prop where
  ex : ∃ p c, (p, h) ∈ sides ps ∧ (h, c) ∈ sides ps ∧ ((n = c ∧ f = p) ∨ (n = p ∧ f = c))
section
variable {X : List Pt} (h0 : X ≠ []) (h3 : 3 ≤ (hull X).length)
theorem pv_two {n k : Nat} (h3 : 3 ≤ n) (hk : k < n) : Hull.pv n (Hull.pv n k) < n ∧ Hull.pv n (Hull.pv n k) ≠ k ∧ Hull.pv n k < n ∧ Hull.pv n k ≠ k ∧ Hull.pv n (Hull.pv n k) ≠ Hull.pv n k := by
  unfold Hull.pv
  (repeat' split) <;> omega
include h3
theorem at_trip {k : Nat} (hk : k < (hull X).length) : (pre2 (hull X) k, pre (hull X) k) ∈ sides (hull X) ∧ (pre (hull X) k, cur (hull X) k) ∈ sides (hull X) := by
  obtain ⟨a1, a2, a3, a4, a5⟩ := pv_two h3 hk
  exact ⟨List.mem_map.mpr ⟨_, List.mem_range.mpr a3, rfl⟩, List.mem_map.mpr ⟨k, List.mem_range.mpr hk, rfl⟩⟩
theorem trip_at {h n f : Pt} (T : Trip (hull X) h n f) : ∃ k, k < (hull X).length ∧ h = pre (hull X) k ∧ ((n = cur (hull X) k ∧ f = pre2 (hull X) k) ∨ (n = pre2 (hull X) k ∧ f = cur (hull X) k)) := by
  obtain ⟨p, c, h1, h2, h4⟩ := T
  obtain ⟨j, hj, e1⟩ := List.mem_map.mp h1
  obtain ⟨k, hk, e2⟩ := List.mem_map.mp h2
  rw [Prod.mk.injEq] at e1 e2
  obtain ⟨rfl, rfl⟩ := e1
  obtain ⟨e2, rfl⟩ := e2
  have hj := List.mem_range.mp hj
  have hk := List.mem_range.mp hk
  have ej : Hull.pv (hull X).length k = j := getD_inj (hull_nodup X) (pv_two h3 hk).2.2.1 hj e2
  refine ⟨k, hk, e2.symm, ?_⟩
  have ep : pre (hull X) j = pre2 (hull X) k := by unfold pre2; rw [ej]; rfl
  rw [ep] at h4
  exact h4
theorem trip_three {h n f : Pt} (T : Trip (hull X) h n f) : h ∈ hull X ∧ n ∈ hull X ∧ f ∈ hull X ∧ h ≠ n ∧ h ≠ f ∧ span h n f ≠ 0 := by
  obtain ⟨k, hk, rfl, hq⟩ := trip_at h3 T
  obtain ⟨a1, a2, a3, a4, a5⟩ := pv_two h3 hk
  have m1 : pre (hull X) k ∈ hull X := getD_mem a3
  have m2 : cur (hull X) k ∈ hull X := getD_mem hk
  have m3 : pre2 (hull X) k ∈ hull X := getD_mem a1
  have n1 : pre (hull X) k ≠ cur (hull X) k := fun z => a4 (getD_inj (hull_nodup X) a3 hk z)
  have n2 : pre2 (hull X) k ≠ cur (hull X) k := fun z => a2 (getD_inj (hull_nodup X) a1 hk z)
  have n3 : pre2 (hull X) k ≠ pre (hull X) k := fun z => a5 (getD_inj (hull_nodup X) a1 a3 z)
  rcases hq with ⟨rfl, rfl⟩ | ⟨rfl, rfl⟩
  · exact ⟨m1, m2, m3, n1, n3.symm, no3 m1 m2 m3 n1 n2.symm n3.symm⟩
  · exact ⟨m1, m3, m2, n3.symm, n1, no3 m1 m3 m2 n3.symm n2 n1⟩
theorem trip_std {h n f : Pt} (T : Trip (hull X) h n f) : Std (st h n f) h n f := by
  obtain ⟨_, _, _, a, _, b⟩ := trip_three h3 T
  exact std_ok a b
theorem mem_stL {m : Mv} : m ∈ stL (hull X) ↔ ∃ h n f, Trip (hull X) h n f ∧ m = st h n f := by
  unfold stL
  rw [List.mem_flatMap]
  constructor
  · rintro ⟨k, hk, hm⟩
    have hk := List.mem_range.mp hk
    obtain ⟨s1, s2⟩ := at_trip h3 hk
    unfold stK at hm
    simp only [List.mem_cons, List.not_mem_nil, or_false] at hm
    rcases hm with rfl | rfl
    · exact ⟨_, _, _, ⟨_, _, s1, s2, .inl ⟨rfl, rfl⟩⟩, rfl⟩
    · exact ⟨_, _, _, ⟨_, _, s1, s2, .inr ⟨rfl, rfl⟩⟩, rfl⟩
  · rintro ⟨h, n, f, T, rfl⟩
    obtain ⟨k, hk, rfl, hq⟩ := trip_at h3 T
    refine ⟨k, List.mem_range.mpr hk, ?_⟩
    unfold stK
    rcases hq with ⟨rfl, rfl⟩ | ⟨rfl, rfl⟩ <;> simp
theorem stL_mv {m : Mv} (h : m ∈ stL (hull X)) : IsMv m := by
  obtain ⟨a, b, c, T, rfl⟩ := (mem_stL h3).mp h
  exact (trip_std h3 T).mv
include h0
/-- of the picture -/
theorem trip_act {t : Mv} (it : IsMv t) {h n f : Pt} : Trip (hull ((hull X).map (act t))) (act t h) (act t n) (act t f) ↔ Trip (hull X) h n f := by
  have l3 : 3 ≤ (hull ((hull X).map (act t))).length := by rw [act_len h0 h3 it]; exact h3
  have n0 : (hull X).map (act t) ≠ [] := by simpa using hull_ne h0
  constructor
  · rintro ⟨p, c, h1, h2, h4⟩
    obtain ⟨mp, mh, _⟩ := (mem_sides n0 l3).mp h1
    obtain ⟨_, mc, _⟩ := (mem_sides n0 l3).mp h2
    obtain ⟨p', hp', rfl⟩ := List.mem_map.mp (hull_mem mp)
    obtain ⟨c', hc', rfl⟩ := List.mem_map.mp (hull_mem mc)
    have s1 := (sides_act h0 h3 it).mp h1
    have s2 := (sides_act h0 h3 it).mp h2
    have h4' : (n = c' ∧ f = p') ∨ (n = p' ∧ f = c') := by
      rcases h4 with ⟨a, b⟩ | ⟨a, b⟩
      · exact .inl ⟨act_inj it a, act_inj it b⟩
      · exact .inr ⟨act_inj it a, act_inj it b⟩
    by_cases d : det t = 1
    · rw [if_pos d] at s1 s2
      exact ⟨p', c', s1, s2, h4'⟩
    · rw [if_neg d] at s1 s2
      exact ⟨c', p', s2, s1, h4'.symm⟩
  · rintro ⟨p, c, h1, h2, h4⟩
    have h4' : (act t n = act t c ∧ act t f = act t p) ∨ (act t n = act t p ∧ act t f = act t c) := by
      rcases h4 with ⟨a, b⟩ | ⟨a, b⟩
      · exact .inl ⟨by rw [a], by rw [b]⟩
      · exact .inr ⟨by rw [a], by rw [b]⟩
    by_cases d : det t = 1
    · exact ⟨act t p, act t c, (sides_act h0 h3 it).mpr (by rw [if_pos d]; exact h1), (sides_act h0 h3 it).mpr (by rw [if_pos d]; exact h2), h4'⟩
    · exact ⟨act t c, act t p, (sides_act h0 h3 it).mpr (by rw [if_neg d]; exact h2), (sides_act h0 h3 it).mpr (by rw [if_neg d]; exact h1), h4'.symm⟩
theorem stL_act {t : Mv} (it : IsMv t) {m : Mv} : m ∈ stL (hull ((hull X).map (act t))) ↔ ∃ k ∈ stL (hull X), m = thn (back t) k := by
  have l3 : 3 ≤ (hull ((hull X).map (act t))).length := by rw [act_len h0 h3 it]; exact h3
  rw [mem_stL l3]
  constructor
  · rintro ⟨h, n, f, T, rfl⟩
    obtain ⟨m1, m2, m3, _⟩ := trip_three l3 T
    obtain ⟨h', _, rfl⟩ := List.mem_map.mp (hull_mem m1)
    obtain ⟨n', _, rfl⟩ := List.mem_map.mp (hull_mem m2)
    obtain ⟨f', _, rfl⟩ := List.mem_map.mp (hull_mem m3)
    have T' := (trip_act h0 h3 it).mp T
    exact ⟨_, (mem_stL h3).mpr ⟨_, _, _, T', rfl⟩, std_uniq (trip_std l3 T) ((trip_std h3 T').act it)⟩
  · rintro ⟨k, hk, rfl⟩
    obtain ⟨h, n, f, T, rfl⟩ := (mem_stL h3).mp hk
    have T' := (trip_act h0 h3 it).mpr T
    exact ⟨_, _, _, T', std_uniq ((trip_std h3 T).act it) (trip_std l3 T')⟩
end
/-! shapes -/
def shp (ps : List Pt) (m : Mv) : List Pt := hull (ps.map (act m))
theorem aff_act (m : Mv) : Aff (act m) m.a m.b m.c m.d := ⟨fun p q => by unfold act; grind, fun p q => by unfold act; grind⟩
theorem det_ne {m : Mv} (hm : IsMv m) : m.a * m.d - m.b * m.c ≠ 0 := by
  have : det m ≠ 0 := by rcases hm with q | q <;> omega
  exact this
theorem shp_act {t m : Mv} (it : IsMv t) (im : IsMv m) (Y : List Pt) : shp (hull (Y.map (act t))) m = shp Y (thn t m) := by
  unfold shp
  rw [hull_map_hull (aff_act m) (det_ne im), maps_thn]
theorem thn_back' {t : Mv} (it : IsMv t) (m : Mv) : thn t (thn (back t) m) = m := by
  refine mv_three ?_ ?_ ?_ <;> rw [act_thn, act_thn, back_act it]
theorem back_thn {t : Mv} (it : IsMv t) (m : Mv) : thn (back t) (thn t m) = m := by
  refine mv_three ?_ ?_ ?_ <;> rw [act_thn, act_thn, act_back it]
/-- the form of three corners or more, and the move to it -/
structure IsForm (ps F : List Pt) (M : Mv) : Prop where
  mem : M ∈ stL ps
  sh : F = shp ps M
  le : ∀ m ∈ stL ps, ¬ kLM (shp ps m, m) < kLM (F, M)
theorem IsForm.least {ps F : List Pt} {M : Mv} (h : IsForm ps F M) : ∀ m ∈ stL ps, ¬ kL (shp ps m) < kL F := fun m hm z => h.le m hm ((kLM_lt _ _).mpr (.inl z))
theorem IsForm.uniq {ps F F' : List Pt} {M M' : Mv} (h : IsForm ps F M) (h' : IsForm ps F' M') : F = F' ∧ M = M' := by
  have a := h.le M' h'.mem
  have b := h'.le M h.mem
  rw [← h'.sh] at a
  rw [← h.sh] at b
  have := kd_lm.eq_of a b
  rw [Prod.mk.injEq] at this
  exact ⟨this.1.symm, this.2.symm⟩
theorem form_same {X F F' : List Pt} {M M' t : Mv} (h0 : X ≠ []) (h3 : 3 ≤ (hull X).length) (it : IsMv t) (h : IsForm (hull X) F M) (h' : IsForm (hull ((hull X).map (act t))) F' M') : F' = F := by
  obtain ⟨k, hk, ek⟩ := (stL_act h0 h3 it).mp h'.mem
  have e1 : F' = shp (hull X) k := by rw [h'.sh, ek, shp_act it (it.back.thn (stL_mv h3 hk)), thn_back' it]
  have m2 := (stL_act h0 h3 it).mpr ⟨M, h.mem, rfl⟩
  have e2 : shp (hull ((hull X).map (act t))) (thn (back t) M) = F := by rw [shp_act it (it.back.thn (stL_mv h3 h.mem)), thn_back' it, ← h.sh]
  have a := h.least k hk
  have b := h'.least _ m2
  rw [← e1] at a
  rw [e2] at b
  exact kd_pts.eq_of a b
end Frm
namespace Frm
open DL PySem PySem.Spec PyProof.Rows L2 Hull Mov Hrt
/-- the form of any field, and the move to it -/
structure FormOf (ps F : List Pt) (M : Mv) : Prop where
  mv : IsMv M
  sh : F = shp ps M
  one : ps.length = 1 → M = ⟨1, 0, 0, 1, -(ps.getD 0 (0, 0)).1, -(ps.getD 0 (0, 0)).2⟩
  two : ps.length = 2 → M = lv (ps.getD 0 (0, 0)) (ps.getD 1 (0, 0))
  more : 3 ≤ ps.length → IsForm ps F M
theorem one_form {p : Pt} {F : List Pt} {M : Mv} (h : FormOf [p] F M) : F = [(0, 0)] := by
  rw [h.sh, h.one rfl]
  show hull [act _ p] = _
  have e : act ⟨1, 0, 0, 1, -p.1, -p.2⟩ p = (0, 0) := by unfold act; refine Prod.ext ?_ ?_ <;> dsimp only <;> omega
  show hull [act ⟨1, 0, 0, 1, -p.1, -p.2⟩ p] = _
  rw [e]; rfl
theorem two_form {p q : Pt} {F : List Pt} {M : Mv} (ne : p ≠ q) (h : FormOf [p, q] F M) : F = [(0, 0), (gd p q, 0)] := by
  rw [h.sh, h.two rfl]
  show hull [act (lv p q) p, act (lv p q) q] = _
  obtain ⟨s, t, L, _, _⟩ := lv_ok ne
  rw [L.at0, L.at1]
  have g0 := L.g0
  have hs : srt [(0, 0), (gd p q, 0)] = [(0, 0), (gd p q, 0)] := (srt_uniq (by
    refine List.pairwise_pair.mpr ?_
    unfold LtP; dsimp only; omega) fun x => Iff.rfl).symm
  unfold hull
  rw [hs]
  rfl
theorem FormOf.uniq {ps F F' : List Pt} {M M' : Mv} (h0 : ps ≠ []) (h : FormOf ps F M) (h' : FormOf ps F' M') : F = F' ∧ M = M' := by
  have hl : 0 < ps.length := List.length_pos_iff.mpr h0
  rcases (show ps.length = 1 ∨ ps.length = 2 ∨ 3 ≤ ps.length by omega) with e | e | e
  · have : M = M' := by rw [h.one e, h'.one e]
    exact ⟨by rw [h.sh, h'.sh, this], this⟩
  · have : M = M' := by rw [h.two e, h'.two e]
    exact ⟨by rw [h.sh, h'.sh, this], this⟩
  · exact (h.more e).uniq (h'.more e)
theorem any_len {X : List Pt} (h0 : X ≠ []) {t : Mv} (it : IsMv t) : (hull ((hull X).map (act t))).length = (hull X).length := by
  have mm : ∀ p, act t p ∈ hull ((hull X).map (act t)) ↔ p ∈ hull X := fun p => by rw [hull_pic (aff_act t) (det_ne it), hull_hull]
  have perm : (hull ((hull X).map (act t))).Perm ((hull X).map (act t)) := by
    refine (List.perm_ext_iff_of_nodup (hull_nodup _) ?_).mpr fun y => ?_
    · rw [List.nodup_iff_pairwise_ne, List.pairwise_map]
      exact (List.nodup_iff_pairwise_ne.mp (hull_nodup X)).imp fun hne z => hne (act_inj it z)
    · constructor
      · exact hull_mem
      · intro hy
        obtain ⟨p, hp, rfl⟩ := List.mem_map.mp hy
        exact (mm p).mpr hp
  rw [perm.length_eq, List.length_map]
/-- the form of the picture is the form -/
theorem form_pic {X F F' : List Pt} {M M' t : Mv} (h0 : X ≠ []) (it : IsMv t) (h : FormOf (hull X) F M) (h' : FormOf (hull ((hull X).map (act t))) F' M') : F' = F := by
  have hne := hull_ne h0
  have hl : 0 < (hull X).length := List.length_pos_iff.mpr hne
  have el := any_len h0 it
  rcases (show (hull X).length = 1 ∨ (hull X).length = 2 ∨ 3 ≤ (hull X).length by omega) with e | e | e
  · rw [e] at el
    match hX : hull X, e with
    | [p], _ =>
      rw [hX] at h h' el
      match hY : hull ([p].map (act t)), el with
      | [q], _ =>
        rw [hY] at h'
        rw [one_form h, one_form h']
  · rw [e] at el
    have nd := hull_nodup X
    have ndY := hull_nodup ((hull X).map (act t))
    match hX : hull X, e with
    | [p, q], _ =>
      rw [hX] at h h' el nd ndY
      match hY : hull ([p, q].map (act t)), el with
      | [a, b], _ =>
        rw [hY] at h' ndY
        have ne : p ≠ q := by simp at nd; exact nd
        have ne' : a ≠ b := by simp at ndY; exact ndY
        rw [two_form ne h, two_form ne' h']
        have ma : a ∈ [p, q].map (act t) := hull_mem (by rw [hY]; simp)
        have mb : b ∈ [p, q].map (act t) := hull_mem (by rw [hY]; simp)
        simp only [List.map_cons, List.map_nil, List.mem_cons, List.not_mem_nil, or_false] at ma mb
        have eg : gd a b = gd p q := by
          rcases ma with rfl | rfl <;> rcases mb with rfl | rfl
          · exact absurd rfl ne'
          · exact gd_act it p q
          · rw [gd_act it, gd_swap]
          · exact absurd rfl ne'
        rw [eg]
  · exact form_same h0 e it (h.more e) (h'.more (by rw [el]; exact e))
/-- two fields of one form: a move takes one to the other -/
theorem shp_hull {X : List Pt} (m : Mv) (im : IsMv m) : shp (hull X) m = hull (X.map (act m)) := hull_map_hull (aff_act m) (det_ne im) X
theorem form_takes {X Y F : List Pt} {M N : Mv} (h : FormOf (hull X) F M) (h' : FormOf (hull Y) F N) : hull ((hull X).map (act (thn M (back N)))) = hull Y := by
  have e1 : hull ((hull X).map (act (thn M (back N)))) = shp (hull ((hull X).map (act M))) (back N) := by rw [shp_act h.mv h'.mv.back]; rfl
  have e2 : shp (hull ((hull Y).map (act N))) (back N) = hull Y := by
    rw [shp_act h'.mv h'.mv.back]
    have : ∀ p, act (thn N (back N)) p = p := fun p => by rw [act_thn, back_act h'.mv]
    unfold shp
    have : (hull Y).map (act (thn N (back N))) = hull Y := by
      conv => rhs; rw [← List.map_id (hull Y)]
      exact List.map_congr_left fun p _ => this p
    rw [this, hull_hull]
  have a : hull ((hull X).map (act M)) = F := h.sh.symm
  have b : hull ((hull Y).map (act N)) = F := h'.sh.symm
  rw [e1, a, ← b, e2]
/-! sizes -/
theorem st_bm {k : Nat} {h n f : Pt} (bh : BP k h) (bn : BP k n) (bf : BP k f) (ne : h ≠ n) : BM (5 * k + 12) (st h n f) := by
  have bl := lv_bm bh bn ne
  have bF := act_bp bl bf
  have key : ∀ (z a c : Int), Bt (3 * k + 6) z → Bt (k + k + 4) a → Bt (k + k + 4) c → Bt (5 * k + 12) (a - z * c) := fun z a c hz ha hc => (ha.sub (hz.mul hc)).mono (by omega)
  have bx : Bt (3 * k + 6) (act (lv h n) f).1 := bF.x.mono (by omega)
  unfold st
  split
  · exact ⟨key _ _ _ bx.ediv bl.a bl.c.neg, key _ _ _ bx.ediv bl.b bl.d.neg, bl.c.neg.mono (by omega), bl.d.neg.mono (by omega), key _ _ _ bx.ediv bl.e bl.f.neg, bl.f.neg.mono (by omega)⟩
  · exact ⟨key _ _ _ bx.ediv bl.a bl.c, key _ _ _ bx.ediv bl.b bl.d, bl.c.mono (by omega), bl.d.mono (by omega), key _ _ _ bx.ediv bl.e bl.f, bl.f.mono (by omega)⟩
theorem stL_bm {X : List Pt} {k : Nat} (h3 : 3 ≤ (hull X).length) (hb : ∀ p ∈ hull X, BP k p) {m : Mv} (hm : m ∈ stL (hull X)) : BM (5 * k + 12) m := by
  obtain ⟨h, n, f, T, rfl⟩ := (mem_stL h3).mp hm
  obtain ⟨a, b, c, d, _, _⟩ := trip_three h3 T
  exact st_bm (hb _ a) (hb _ b) (hb _ c) d
theorem form_bm {X F : List Pt} {M : Mv} {k : Nat} (h0 : X ≠ []) (hb : ∀ p ∈ hull X, BP k p) (h : FormOf (hull X) F M) : BM (5 * k + 12) M ∧ ∀ p ∈ F, BP (6 * k + 14) p := by
  have hne := hull_ne h0
  have hl : 0 < (hull X).length := List.length_pos_iff.mpr hne
  have bm : BM (5 * k + 12) M := by
    rcases (show (hull X).length = 1 ∨ (hull X).length = 2 ∨ 3 ≤ (hull X).length by omega) with e | e | e
    · rw [h.one e]
      have b := hb _ (getD_mem (show 0 < (hull X).length by omega))
      exact ⟨(Bt.lit (k := 1) rfl).mono (by omega), (Bt.lit (k := 1) rfl).mono (by omega), (Bt.lit (k := 1) rfl).mono (by omega), (Bt.lit (k := 1) rfl).mono (by omega), b.x.neg.mono (by omega), b.y.neg.mono (by omega)⟩
    · rw [h.two e]
      refine (lv_bm (hb _ (getD_mem (show 0 < (hull X).length by omega))) (hb _ (getD_mem (show 1 < (hull X).length by omega))) fun z => ?_).mono (by omega)
      have := getD_inj (hull_nodup X) (show 0 < (hull X).length by omega) (show 1 < (hull X).length by omega) z
      omega
    · exact stL_bm e hb (h.more e).mem
  refine ⟨bm, fun p hp => ?_⟩
  rw [h.sh] at hp
  obtain ⟨q, hq, rfl⟩ := List.mem_map.mp (hull_mem hp)
  exact (act_bp bm (hb q hq)).mono (by omega)
end Frm
namespace Frm
open DL PySem PySem.Spec PyProof.Rows L2 Hull Mov Hrt
theorem flat_len2 (ps : List Pt) : ∀ i, ((List.range i).flatMap (Frm.stK ps)).length = 2 * i
  | 0 => rfl
  | i + 1 => by
    rw [List.range_succ, List.flatMap_append, List.length_append, flat_len2 ps i]
    simp only [List.flatMap_cons, List.flatMap_nil, List.append_nil]
    show _ + 2 = _
    omega
theorem stL_len (ps : List Pt) : (stL ps).length = 2 * ps.length := flat_len2 ps _
end Frm
namespace Frm
open DL PySem PySem.Spec PyProof.Rows L2 Hull Mov Hrt
theorem pic_mem {X : List Pt} {t : Mv} (it : IsMv t) (p : Pt) : act t p ∈ hull ((hull X).map (act t)) ↔ p ∈ hull X := by rw [hull_pic (aff_act t) (det_ne it), hull_hull]
theorem pic_perm (X : List Pt) {t : Mv} (it : IsMv t) : ((hull X).map (act t)).Perm (hull ((hull X).map (act t))) := by
  refine List.Perm.symm ((List.perm_ext_iff_of_nodup (hull_nodup _) ?_).mpr fun y => ?_)
  · rw [List.nodup_iff_pairwise_ne, List.pairwise_map]
    exact (List.nodup_iff_pairwise_ne.mp (hull_nodup X)).imp fun hne z => hne (act_inj it z)
  · constructor
    · exact hull_mem
    · intro hy
      obtain ⟨p, hp, rfl⟩ := List.mem_map.mp hy
      exact (pic_mem it p).mpr hp
theorem FormOf.zero {X F : List Pt} {M : Mv} (h3 : 3 ≤ (hull X).length) (h : FormOf (hull X) F M) : (0, 0) ∈ F := by
  obtain ⟨a, b, c, T, e⟩ := (mem_stL h3).mp (h.more h3).mem
  have s := trip_std h3 T
  rw [← e] at s
  obtain ⟨m, _⟩ := trip_three h3 T
  rw [h.sh, ← s.at0]
  exact (pic_mem h.mv a).mpr m
/-- its first corner is (0, 0) or to the left of it -/
theorem FormOf.first {X F : List Pt} {M : Mv} (h3 : 3 ≤ (hull X).length) (h : FormOf (hull X) F M) : ∃ a t, F = a :: t ∧ ltD (pt (0, 0)) (pt a) = false := by
  have z := h.zero h3
  have z0 : (hull X).map (act M) ≠ [] := fun e => by rw [h.sh] at z; unfold shp at z; rw [e] at z; exact nomatch z
  obtain ⟨a, t, e, _, fa, _⟩ := hull_ends z0
  refine ⟨a, t, by rw [h.sh]; exact e, ?_⟩
  rw [ltD_pt, decide_eq_false_iff_not]
  have mz : (0, 0) ∈ (hull X).map (act M) := by rw [h.sh] at z; exact hull_mem z
  rcases fa _ mz with q | q
  · rw [← q]; dsimp only; omega
  · unfold LtP at q; dsimp only at q ⊢; omega
end Frm
/-! the laws' leaning: two slants, a mirror ahead, a shift -/
namespace Put
open DL PySem PySem.Spec PyProof.Rows L2 Mov Hull
def lean (c : Int) (small : Bool) : Int := if small = true then c % 9 - 4 else c % (2 * 10 ^ 20 + 1) - 10 ^ 20
def far40 (c : Int) : Int := c % (2 * 10 ^ 40 + 1) - 10 ^ 40
theorem lean_bt (c : Int) (b : Bool) : Bt 70 (lean c b) := by
  unfold lean
  rw [Bt.def]
  split <;> omega
theorem far_bt (c : Int) : Bt 140 (far40 c) := by
  unfold far40
  rw [Bt.def]; omega
/-- by the shape's bits, two cells for the slants, two for the shift -/
def putM (sh c1 c2 c3 c4 : Int) : Mv :=
  if sh % 2 = 1 then ⟨lean c2 (decide (sh / 4 % 2 = 1)), 1 + lean c2 (decide (sh / 4 % 2 = 1)) * lean c1 (decide (sh / 2 % 2 = 1)), 1, lean c1 (decide (sh / 2 % 2 = 1)), far40 c3, far40 c4⟩
  else ⟨1 + lean c2 (decide (sh / 4 % 2 = 1)) * lean c1 (decide (sh / 2 % 2 = 1)), lean c2 (decide (sh / 4 % 2 = 1)), lean c1 (decide (sh / 2 % 2 = 1)), 1, far40 c3, far40 c4⟩
theorem put_mv (sh c1 c2 c3 c4 : Int) : IsMv (putM sh c1 c2 c3 c4) := by
  unfold putM
  split
  · right; show _ * _ - _ * _ = (-1 : Int); dsimp only; grind
  · left; show _ * _ - _ * _ = (1 : Int); dsimp only; grind
theorem put_bm (sh c1 c2 c3 c4 : Int) : BM 142 (putM sh c1 c2 c3 c4) := by
  have p := lean_bt c1 (decide (sh / 2 % 2 = 1))
  have q := lean_bt c2 (decide (sh / 4 % 2 = 1))
  have o : Bt 142 1 := Bt.lit (by decide)
  have qp : Bt 142 (1 + lean c2 (decide (sh / 4 % 2 = 1)) * lean c1 (decide (sh / 2 % 2 = 1))) := ((Bt.lit (k := 1) rfl).add (q.mul p)).mono (by decide)
  unfold putM
  split
  · exact ⟨q.mono (by decide), qp, o, p.mono (by decide), (far_bt _).mono (by decide), (far_bt _).mono (by decide)⟩
  · exact ⟨qp, q.mono (by decide), p.mono (by decide), o, (far_bt _).mono (by decide), (far_bt _).mono (by decide)⟩
theorem put_act (sh c1 c2 c3 c4 : Int) (x y : Int) : act (putM sh c1 c2 c3 c4) (x, y) =
    (let x' := if sh % 2 = 1 then y else x
     let y' := (if sh % 2 = 1 then x else y) + lean c1 (decide (sh / 2 % 2 = 1)) * x'
     (x' + lean c2 (decide (sh / 4 % 2 = 1)) * y' + far40 c3, y' + far40 c4)) := by
  unfold putM
  split
  · unfold act; dsimp only; refine Prod.ext ?_ ?_ <;> dsimp only <;> grind
  · unfold act; dsimp only; refine Prod.ext ?_ ?_ <;> dsimp only <;> grind
/-- three that are on no line -/
theorem three_corners {X : List Pt} {p q r : Pt} (hp : p ∈ X) (hq : q ∈ X) (hr : r ∈ X) (h : span p q r ≠ 0) : 3 ≤ (hull X).length := by
  have h0 : X ≠ [] := List.ne_nil_of_mem hp
  have hne := hull_ne h0
  have l0 : 0 < (hull X).length := List.length_pos_iff.mpr hne
  refine Decidable.byContradiction fun lt => h ?_
  have nq : p ≠ q := fun z => h (by rw [z]; exact span_self3 _ _)
  have l2 := Hrt.two_corners hp hq nq
  have e2 : (hull X).length = 2 := by omega
  have s0 := hull_side h0 (k := 0) (by omega)
  have s1 := hull_side h0 (k := 1) (by omega)
  have nd := hull_nodup X
  match hX : hull X, e2 with
  | [a, b], _ =>
    rw [hX] at s0 s1 nd
    have ne : a ≠ b := by simp at nd; exact nd
    have all : ∀ x ∈ X, span a b x = 0 := fun x hx => by
      have t0 : 0 ≤ span a b x := s0 x hx
      have t1 := s1 x hx
      simp only [List.length_cons, List.length_nil] at t1
      have t1 : 0 ≤ span b a x := t1
      rw [span_swap] at t1
      omega
    have a1 := all p hp
    have a2 := all q hq
    have a3 := all r hr
    have e : ∀ u v : Int, (b.1 - a.1) * span p q r = 0 ∧ (b.2 - a.2) * span p q r = 0 := fun _ _ => by
      unfold span at a1 a2 a3 ⊢
      constructor <;> grind
    obtain ⟨z1, z2⟩ := e 0 0
    rcases Int.mul_eq_zero.mp z1 with y1 | y1
    · rcases Int.mul_eq_zero.mp z2 with y2 | y2
      · exact absurd (Prod.ext (by omega) (by omega)) ne
      · exact y2
    · exact y1
end Put
/-! of fields that no move takes into each other -/
namespace Frm
open DL PySem PySem.Spec PyProof.Rows L2 Hull Mov Hrt
def tri (o p : Pt) : Pt := (o.1 + 3 * (p.1 - o.1), o.2 + 3 * (p.2 - o.2))
theorem span_tri (o p q r : Pt) : span (tri o p) (tri o q) (tri o r) = 9 * span p q r := by unfold span tri; grind
theorem span_up {X : List Pt} (h0 : X ≠ []) {p q r : Pt} (hp : p ∈ X) (hq : q ∈ X) (hr : r ∈ X) : ∃ a ∈ hull X, ∃ b ∈ hull X, ∃ c ∈ hull X, span p q r ≤ span a b c := by
  obtain ⟨c, hc, tc⟩ := top_hull h0 (-(q.2 - p.2)) (q.1 - p.1)
  have h1 : span p q r ≤ span p q c := by
    have := tc r hr
    unfold wr at this; unfold span; grind
  have mc := hull_mem hc
  obtain ⟨b, hb, tb⟩ := top_hull h0 (c.2 - p.2) (-(c.1 - p.1))
  have h2 : span p q c ≤ span p b c := by
    have := tb q hq
    unfold wr at this; unfold span; grind
  obtain ⟨a, ha, ta⟩ := top_hull h0 (-(c.2 - b.2)) (c.1 - b.1)
  have h3 : span p b c ≤ span a b c := by
    have := ta p hp
    unfold wr at this; unfold span; grind
  exact ⟨a, ha, b, hb, c, hc, by omega⟩
theorem exists_max {α : Type} (f : α → Int) : ∀ {l : List α}, l ≠ [] → ∃ x ∈ l, ∀ y ∈ l, f y ≤ f x
  | [], h => absurd rfl h
  | [x], _ => ⟨x, by simp, fun y hy => by rw [List.mem_singleton.mp hy]; exact Int.le_refl _⟩
  | x :: z :: l, _ => by
    obtain ⟨w, hw, h⟩ := exists_max f (l := z :: l) (by simp)
    by_cases c : f w ≤ f x
    · refine ⟨x, by simp, fun y hy => ?_⟩
      rcases List.mem_cons.mp hy with rfl | hy
      · exact Int.le_refl _
      · exact Int.le_trans (h y hy) c
    · refine ⟨w, List.mem_cons_of_mem _ hw, fun y hy => ?_⟩
      rcases List.mem_cons.mp hy with rfl | hy
      · omega
      · exact h y hy
theorem most {ps : List Pt} (h : ps ≠ []) : ∃ p ∈ ps, ∃ q ∈ ps, ∃ r ∈ ps, ∀ a ∈ ps, ∀ b ∈ ps, ∀ c ∈ ps, span a b c ≤ span p q r := by
  have mm : ∀ a b c : Pt, (a, b, c) ∈ ps.flatMap (fun a => ps.flatMap fun b => ps.map fun c => (a, b, c)) ↔ a ∈ ps ∧ b ∈ ps ∧ c ∈ ps := fun a b c => by
    simp only [List.mem_flatMap, List.mem_map, Prod.mk.injEq]
    constructor
    · rintro ⟨x, hx, y, hy, z, hz, rfl, rfl, rfl⟩; exact ⟨hx, hy, hz⟩
    · rintro ⟨hx, hy, hz⟩; exact ⟨a, hx, b, hy, c, hz, rfl, rfl, rfl⟩
  obtain ⟨x, hx⟩ : ∃ x, x ∈ ps := List.exists_mem_of_ne_nil _ h
  have ne : ps.flatMap (fun a => ps.flatMap fun b => ps.map fun c => (a, b, c)) ≠ [] := List.ne_nil_of_mem ((mm x x x).mpr ⟨hx, hx, hx⟩)
  obtain ⟨⟨p, q, r⟩, hm, hh⟩ := exists_max (fun t : Pt × Pt × Pt => span t.1 t.2.1 t.2.2) ne
  obtain ⟨hp, hq, hr⟩ := (mm p q r).mp hm
  exact ⟨p, hp, q, hq, r, hr, fun a ha b hb c hc => hh (a, b, c) ((mm a b c).mpr ⟨ha, hb, hc⟩)⟩
theorem swap12 (p q r : Pt) : span q p r = -span p q r := by unfold span; grind
/-- thrice as great: another form -/
theorem great_other {X Z F G : List Pt} {M P : Mv} (h3 : 3 ≤ (hull X).length) (fm : FormOf (hull X) F M) (o : Pt) (hz : ∀ p ∈ hull X, tri o p ∈ Z) (fg : FormOf (hull Z) G P) : G ≠ F := by
  intro e
  have hne : hull X ≠ [] := fun z => by rw [z] at h3; exact absurd h3 (by decide)
  have h0 : X ≠ [] := fun z => by rw [z] at h3; exact absurd h3 (by decide)
  obtain ⟨p, hp, q, hq, r, hr, mx⟩ := most hne
  have pos : 0 < span p q r := by
    have := hull_turn h0 h3 (k := 0) (by omega)
    have m : ∀ i, i < (hull X).length → (hull X).getD i (0, 0) ∈ hull X := fun i hi => getD_mem hi
    exact Int.lt_of_lt_of_le this (mx _ (m _ (by omega)) _ (m _ (Nat.mod_lt _ (by omega))) _ (m _ (Nat.mod_lt _ (by omega))))
  have z0 : Z ≠ [] := List.ne_nil_of_mem (hz p hp)
  obtain ⟨a, ha, b, hb, c, hc, up⟩ := span_up z0 (hz p hp) (hz q hq) (hz r hr)
  rw [span_tri] at up
  have im := fm.mv
  have ip := fg.mv
  have back1 : ∀ x ∈ hull Z, ∃ y ∈ hull X, act P x = act M y := fun x hx => by
    have h1 : act P x ∈ G := by
      rw [fg.sh]
      exact (pic_mem ip x).mpr hx
    rw [e, fm.sh] at h1
    obtain ⟨y, hy, e⟩ := List.mem_map.mp (hull_mem h1)
    exact ⟨y, hy, e.symm⟩
  obtain ⟨a', ha', ea⟩ := back1 a ha
  obtain ⟨b', hb', eb⟩ := back1 b hb
  obtain ⟨c', hc', ec⟩ := back1 c hc
  have e1 := span_act P a b c
  rw [ea, eb, ec, span_act] at e1
  have m1 := mx a' ha' b' hb' c' hc'
  have m2 := mx b' hb' a' ha' c' hc'
  rw [swap12] at m2
  rcases im with i | i <;> rcases ip with j | j <;> rw [i, j] at e1 <;> omega
theorem form_len {X F : List Pt} {M : Mv} (h0 : X ≠ []) (fm : FormOf (hull X) F M) : F.length = (hull X).length := by
  rw [fm.sh]; exact any_len h0 fm.mv
theorem two_hull {p q : Pt} (h : LtP p q) : hull [p, q] = [p, q] := by
  have e : srt [p, q] = [p, q] := by
    refine (srt_uniq ?_ fun _ => Iff.rfl).symm
    simp only [List.pairwise_cons, List.mem_singleton, List.Pairwise.nil, and_true, List.not_mem_nil, false_implies, implies_true]
    intro a ha; rw [ha]; exact h
  unfold hull
  rw [e]
  rfl
theorem hull_two {X : List Pt} {p q : Pt} (h : hull X = [p, q]) : LtP p q := by
  have e : hull [p, q] = [p, q] := by rw [← h]; exact hull_hull X
  have pw := pw_srt [p, q]
  have nd : p ≠ q := by
    have := hull_nodup X
    rw [h] at this
    simp at this; exact this
  have hd : ∀ {s : List Pt}, s.Pairwise LtP → (∀ x, x ∈ s ↔ x ∈ [p, q]) → (s = [p, q] ∨ s = [q, p]) := by
    intro s pw hm
    by_cases c : LtP p q
    · left
      rw [srt_uniq pw hm]
      exact (srt_uniq (by simp only [List.pairwise_cons, List.mem_singleton, List.Pairwise.nil, and_true, List.not_mem_nil, false_implies, implies_true]; intro a ha; rw [ha]; exact c) fun _ => Iff.rfl).symm
    · right
      have c' : LtP q p := by
        unfold LtP at c ⊢
        by_cases z : q.1 = p.1
        · by_cases w : q.2 = p.2
          · exact absurd (Prod.ext z.symm w.symm) nd
          · omega
        · omega
      rw [srt_uniq pw hm]
      refine (srt_uniq (by simp only [List.pairwise_cons, List.mem_singleton, List.Pairwise.nil, and_true, List.not_mem_nil, false_implies, implies_true]; intro a ha; rw [ha]; exact c') fun x => ?_).symm
      simp only [List.mem_cons, List.not_mem_nil, or_false]; exact Or.comm
  rcases hd pw (mem_srt _) with z | z
  · rw [z] at pw
    simp only [List.pairwise_cons, List.mem_singleton] at pw
    exact pw.1 q rfl
  · have e2 : hull [p, q] = [q, p] := by unfold hull; rw [z]; rfl
    rw [e] at e2
    injection e2 with e3 _
    exact absurd e3 nd
end Frm
/-! a field's own moves -/
namespace Frm
open DL PySem PySem.Spec PyProof.Rows L2 Hull Mov Hrt
def Own (X : List Pt) (m : Mv) : Prop := IsMv m ∧ hull ((hull X).map (act m)) = hull X
section
variable {X : List Pt} (h0 : X ≠ []) (h3 : 3 ≤ (hull X).length)
include h3
theorem stL_nodup : (stL (hull X)).Nodup := by
  unfold stL List.Nodup
  rw [List.pairwise_flatMap]
  constructor
  · intro k hk
    have hk := List.mem_range.mp hk
    obtain ⟨s1, s2⟩ := at_trip h3 hk
    have a := trip_std h3 (⟨_, _, s1, s2, .inl ⟨rfl, rfl⟩⟩ : Trip (hull X) (pre (hull X) k) (cur (hull X) k) (pre2 (hull X) k))
    have b := trip_std h3 (⟨_, _, s1, s2, .inr ⟨rfl, rfl⟩⟩ : Trip (hull X) (pre (hull X) k) (pre2 (hull X) k) (cur (hull X) k))
    unfold stK
    simp only [List.pairwise_cons, List.mem_singleton, List.Pairwise.nil, and_true, List.not_mem_nil, false_implies, implies_true]
    intro z hz e
    rw [hz] at e
    rw [e] at a
    have p1 := a.n2
    have p2 := b.f1
    have p3 := b.f2
    omega
  · refine List.Pairwise.imp_of_mem (R := fun a b => a < b) (fun {i j} hi hj lt x hx y hy e => ?_) List.pairwise_lt_range
    have hi := List.mem_range.mp hi
    have hj := List.mem_range.mp hj
    have key : ∀ {k : Nat} {m : Mv}, k < (hull X).length → m ∈ stK (hull X) k → act m (pre (hull X) k) = (0, 0) ∧ IsMv m := by
      intro k m hk hm
      obtain ⟨s1, s2⟩ := at_trip h3 hk
      have a := trip_std h3 (⟨_, _, s1, s2, .inl ⟨rfl, rfl⟩⟩ : Trip (hull X) (pre (hull X) k) (cur (hull X) k) (pre2 (hull X) k))
      have b := trip_std h3 (⟨_, _, s1, s2, .inr ⟨rfl, rfl⟩⟩ : Trip (hull X) (pre (hull X) k) (pre2 (hull X) k) (cur (hull X) k))
      unfold stK at hm
      simp only [List.mem_cons, List.not_mem_nil, or_false] at hm
      rcases hm with rfl | rfl
      · exact ⟨a.at0, a.mv⟩
      · exact ⟨b.at0, b.mv⟩
    obtain ⟨e1, im⟩ := key hi hx
    obtain ⟨e2, _⟩ := key hj hy
    rw [← e] at e2
    have e3 := act_inj im (e1.trans e2.symm)
    have pi := pv_nx hi
    have pj := pv_nx hj
    have e4 := getD_inj (hull_nodup X) pi.2 pj.2 e3
    rw [e4] at pi
    have := pi.1.symm.trans pj.1
    omega
include h0
/-- what stands alike, taken back -/
theorem own_iff {F : List Pt} {M m : Mv} (f : IsForm (hull X) F M) : (∃ s ∈ stL (hull X), shp (hull X) s = F ∧ m = thn s (back M)) ↔ Own X m := by
  have iM := stL_mv h3 f.mem
  have back_to : shp F (back M) = hull X := by
    have : ∀ p, act (thn M (back M)) p = p := fun p => by rw [act_thn, back_act iM]
    rw [f.sh]
    show shp (hull ((hull X).map (act M))) (back M) = _
    rw [shp_act iM iM.back]
    unfold shp
    have : (hull X).map (act (thn M (back M))) = hull X := by
      conv => rhs; rw [← List.map_id (hull X)]
      exact List.map_congr_left fun p _ => this p
    rw [this, hull_hull]
  constructor
  · rintro ⟨s, hs, es, rfl⟩
    have is := stL_mv h3 hs
    refine ⟨is.thn iM.back, ?_⟩
    have : hull ((hull X).map (act (thn s (back M)))) = shp (hull ((hull X).map (act s))) (back M) := by rw [shp_act is iM.back]; rfl
    rw [this]
    have e : hull ((hull X).map (act s)) = F := es
    rw [e, back_to]
  · rintro ⟨im, e⟩
    have hm : M ∈ stL (hull ((hull X).map (act m))) := by rw [e]; exact f.mem
    obtain ⟨k, hk, ek⟩ := (stL_act h0 h3 im).mp hm
    have e2 : k = thn m M := by rw [ek, thn_back' im]
    refine ⟨k, hk, ?_, ?_⟩
    · rw [e2, ← shp_act im iM, e]; exact f.sh.symm
    · rw [e2, thn_back iM]
omit h0 in
theorem own_list (h0 : X ≠ []) {F : List Pt} {M : Mv} (f : IsForm (hull X) F M) {L : List Mv} (pm : L.Perm (stL (hull X))) : ((L.filter fun s => decide (shp (hull X) s = F)).map fun s => thn s (back M)).Nodup ∧ ∀ m, m ∈ (L.filter fun s => decide (shp (hull X) s = F)).map (fun s => thn s (back M)) ↔ Own X m := by
  have iM := stL_mv h3 f.mem
  have nd : L.Nodup := pm.nodup_iff.mpr (stL_nodup h3)
  constructor
  · have q : (L.filter fun s => decide (shp (hull X) s = F)).Pairwise (fun a b => a ≠ b) := nd.sublist List.filter_sublist
    refine List.pairwise_map.mpr (List.Pairwise.imp (S := fun a b => thn a (back M) ≠ thn b (back M)) (fun {a b} ne e => ne ?_) q)
    have : thn (thn a (back M)) M = thn (thn b (back M)) M := by rw [e]
    have c : ∀ x : Mv, thn (thn x (back M)) M = x := fun x => by
      refine mv_three ?_ ?_ ?_ <;> rw [act_thn, act_thn, act_back iM]
    rwa [c, c] at this
  · intro m
    rw [← own_iff h0 h3 f, List.mem_map]
    constructor
    · rintro ⟨s, hs, rfl⟩
      obtain ⟨h1, h2⟩ := List.mem_filter.mp hs
      exact ⟨s, pm.mem_iff.mp h1, of_decide_eq_true h2, rfl⟩
    · rintro ⟨s, hs, es, rfl⟩
      exact ⟨s, List.mem_filter.mpr ⟨pm.mem_iff.mpr hs, decide_eq_true es⟩, rfl⟩
end
end Frm
/-! own moves by a corner and its two neighbours -/
namespace Frm
open DL PySem PySem.Spec PyProof.Rows L2 Hull Mov Hrt
/-- a corner's neighbour, this way or that -/
def nbr (ps : List Pt) (k : Nat) (w : Int) : Pt := ps.getD ((((k : Nat) : Int) + w) % (ps.length : Int)).toNat (0, 0)
/-- m takes the first corner and its neighbours to the one at k and its own -/
def Fits (A B : List Pt) (k : Nat) (w : Int) (m : Mv) : Prop := act m (cur A 0) = cur B k ∧ act m (cur A 1) = nbr B k w ∧ act m (pre A 0) = nbr B k (-w)
theorem nbr_up {ps : List Pt} {k : Nat} (hk : k < ps.length) : nbr ps (Hull.pv ps.length k) 1 = cur ps k := by
  unfold nbr cur
  obtain ⟨e, l⟩ := pv_nx hk
  have : (((Hull.pv ps.length k : Nat) : Int) + 1) % (ps.length : Int) = (k : Int) := by
    have : (((Hull.pv ps.length k : Nat) : Int) + 1) % (ps.length : Int) = (((Hull.pv ps.length k + 1) % ps.length : Nat) : Int) := by rw [Int.natCast_emod, Int.natCast_add]; rfl
    rw [this, e]
  rw [this]; rfl
theorem nbr_down {ps : List Pt} {k : Nat} (hk : k < ps.length) : nbr ps k (-1) = pre ps k := by
  unfold nbr pre Hull.pv
  by_cases h : k = 0
  · rw [if_pos h, h]
    have : (((0 : Nat) : Int) + -1) % (ps.length : Int) = (ps.length : Int) - 1 := by
      have h1 : (((0 : Nat) : Int) + -1) = ((ps.length : Int) - 1) + (ps.length : Int) * (-1) := by omega
      rw [h1, Int.add_mul_emod_self_left]
      exact Int.emod_eq_of_lt (by omega) (by omega)
    rw [this]
    congr 1
    omega
  · rw [if_neg h]
    have : ((k : Int) + -1) % (ps.length : Int) = (k : Int) - 1 := by
      rw [← Int.sub_eq_add_neg]
      exact Int.emod_eq_of_lt (by omega) (by omega)
    rw [this]
    congr 1
    omega
theorem nbr_up' {ps : List Pt} {k : Nat} (hk : k < ps.length) : nbr ps k 1 = ps.getD ((k + 1) % ps.length) (0, 0) := by
  unfold nbr
  have : ((k : Int) + 1) % (ps.length : Int) = (((k + 1) % ps.length : Nat) : Int) := by rw [Int.natCast_emod, Int.natCast_add]; rfl
  rw [this]; rfl
section
variable {X : List Pt} (h0 : X ≠ []) (h3 : 3 ≤ (hull X).length)
include h3
theorem first_trip : Trip (hull X) (cur (hull X) 0) (cur (hull X) 1) (pre (hull X) 0) := by
  refine ⟨pre (hull X) 0, cur (hull X) 1, List.mem_map.mpr ⟨0, List.mem_range.mpr (by omega), rfl⟩, List.mem_map.mpr ⟨1, List.mem_range.mpr (by omega), ?_⟩, .inl ⟨rfl, rfl⟩⟩
  rfl
/-- the two ways round are unlike -/
theorem nbr_ne {k : Nat} (hk : k < (hull X).length) : nbr (hull X) k 1 ≠ nbr (hull X) k (-1) := by
  rw [nbr_up' hk, nbr_down hk]
  intro e
  have l := Nat.mod_lt (k + 1) (show 0 < (hull X).length by omega)
  have := getD_inj (hull_nodup X) l (pv_nx hk).2 e
  unfold Hull.pv at this
  split at this
  · rename_i z
    rw [z, Nat.mod_eq_of_lt (by omega)] at this
    omega
  · by_cases c : k + 1 = (hull X).length
    · rw [c, Nat.mod_self] at this; omega
    · rw [Nat.mod_eq_of_lt (by omega)] at this; omega
include h0
theorem own_fits {m : Mv} (h : Own X m) : ∃ k, k < (hull X).length ∧ (Fits (hull X) (hull X) k 1 m ∨ Fits (hull X) (hull X) k (-1) m) := by
  obtain ⟨im, e⟩ := h
  have T := (trip_act h0 h3 im).mpr (first_trip h3)
  rw [e] at T
  obtain ⟨k, hk, e1, e2⟩ := trip_at h3 T
  have l := (pv_nx hk).2
  refine ⟨Hull.pv (hull X).length k, l, ?_⟩
  have c : cur (hull X) (Hull.pv (hull X).length k) = pre (hull X) k := rfl
  have d : nbr (hull X) (Hull.pv (hull X).length k) (-1) = pre2 (hull X) k := nbr_down l
  rcases e2 with ⟨e2, e3⟩ | ⟨e2, e3⟩
  · left
    exact ⟨by rw [c]; exact e1, by rw [nbr_up hk]; exact e2, by rw [d]; exact e3⟩
  · right
    exact ⟨by rw [c]; exact e1, by rw [d]; exact e2, by rw [show -(-1 : Int) = 1 from rfl, nbr_up hk]; exact e3⟩
omit h3 in
theorem own_perm {m : Mv} (im : IsMv m) : Own X m ↔ ((hull X).map (act m)).Perm (hull X) := by
  constructor
  · rintro ⟨_, e⟩
    have := pic_perm X im
    rw [e] at this
    exact this
  · intro h
    refine ⟨im, ?_⟩
    rw [hull_congr (qs := hull X) fun x => h.mem_iff, hull_hull]
end
end Frm
/-! a move from field to field, by a corner and its two neighbours -/
namespace Frm
open DL PySem PySem.Spec PyProof.Rows L2 Hull Mov Hrt
/-- m takes the corners of the one to the other's -/
def Takes (X Y : List Pt) (m : Mv) : Prop := IsMv m ∧ hull ((hull X).map (act m)) = hull Y
section
variable {X Y : List Pt} (h0 : X ≠ [])
theorem takes_perm {m : Mv} (im : IsMv m) : Takes X Y m ↔ ((hull X).map (act m)).Perm (hull Y) := by
  constructor
  · rintro ⟨_, e⟩
    have := pic_perm X im
    rw [e] at this
    exact this
  · intro h
    refine ⟨im, ?_⟩
    rw [hull_congr (qs := hull Y) fun x => h.mem_iff, hull_hull]
include h0
theorem takes_len {m : Mv} (h : Takes X Y m) : (hull Y).length = (hull X).length := by rw [← h.2, any_len h0 h.1]
theorem takes_fits (h3 : 3 ≤ (hull X).length) {m : Mv} (h : Takes X Y m) : ∃ k, k < (hull Y).length ∧ (Fits (hull X) (hull Y) k 1 m ∨ Fits (hull X) (hull Y) k (-1) m) := by
  have lY := takes_len h0 h
  obtain ⟨im, e⟩ := h
  have T := (trip_act h0 h3 im).mpr (first_trip h3)
  rw [e] at T
  obtain ⟨k, hk, e1, e2⟩ := trip_at (by omega) T
  have l := (pv_nx hk).2
  refine ⟨Hull.pv (hull Y).length k, l, ?_⟩
  have c : cur (hull Y) (Hull.pv (hull Y).length k) = pre (hull Y) k := rfl
  have d : nbr (hull Y) (Hull.pv (hull Y).length k) (-1) = pre2 (hull Y) k := nbr_down l
  rcases e2 with ⟨e2, e3⟩ | ⟨e2, e3⟩
  · left
    exact ⟨by rw [c]; exact e1, by rw [nbr_up hk]; exact e2, by rw [d]; exact e3⟩
  · right
    exact ⟨by rw [c]; exact e1, by rw [d]; exact e2, by rw [show -(-1 : Int) = 1 from rfl, nbr_up hk]; exact e3⟩
/-- alike's answer: None just where no move takes the one to the other -/
theorem forms_takes {F G : List Pt} {M N : Mv} (f : FormOf (hull X) F M) (g : FormOf (hull Y) G N) : (F = G → Takes X Y (thn M (back N))) ∧ (F ≠ G → ∀ m, ¬ Takes X Y m) := by
  refine ⟨fun e => ?_, fun ne m t => ne ?_⟩
  · subst e
    refine ⟨f.mv.thn g.mv.back, form_takes f g⟩
  · have := t.2
    rw [← this] at g
    exact (form_pic h0 t.1 f g).symm
end
end Frm
namespace DL
open PySem PySem.Spec PyProof.Rows L2

/-! ### the law's own end -/
def spLaw (K : PySem.W.Frag) : Sp := fun vs H Q _ => ∃ (a : Addr) (ns : List Int), vs = [.ref a] ∧ SqL K H a (ns.map V.int) ∧ Scr ns ∧ ∀ H', Q (.bl true) H'
theorem law_fn {P : Program} {w : World} {K : PySem.W.Frag} {mg : MG} {base : Heap} {k : Nat} {f : Addr} {fd : FuncData} {S : Fsp} (F : FnOk P w K mg base (L2.CX P w) k f fd ["script"] (spOf K mg [false] S)) (hS : ∀ (ns : List Int) (κ : Rv → Prop) (ε : Str → Prop), Scr ns → κ (.v (.bl true)) → S [.lst (ns.map Dat.int)] κ ε) :
    FnOk P w K mg base (L2.CX P w) k f fd ["script"] (spLaw K) := by
  refine F.imp fun vs H Q E h => ?_
  obtain ⟨a, ns, rfl, hs, hn, q⟩ := h
  refine ⟨fun _ => none, [.lst (ns.map Dat.int)], (fun _ _ e => nomatch e), ⟨_, [], _, [], rfl, rfl, .inr ⟨a, _, _, rfl, rfl, hs, RdL.ints ns⟩, rfl, rfl⟩, fun r => r = .v (.bl true), fun _ => False, hS ns _ _ hn rfl, fun v H' G' r x hr ok e => ?_, fun _ _ _ _ _ _ z => False.elim z⟩
  subst e
  rw [rvB hr]
  exact q H'
theorem bits_bt {z : Int} (h : Builtin.Int.intBits z ≤ 1048576) : Bt 1048577 z := by
  rw [Bt.def]
  unfold Builtin.Int.intBits at h
  split at h
  · rename_i e
    simp only [beq_iff_eq] at e
    rw [e]
    exact Nat.pow_pos (by decide)
  · rename_i e
    have hz : z.natAbs ≠ 0 := fun q => e (by simp only [beq_iff_eq]; omega)
    exact (Nat.log2_lt hz).mp (by omega)
theorem walk_dl {l : PySem.W.OpenLaw} {q : Program} {loose : List Str} {XP : (Str → Option Value) → Heap → Prop} {YP : World → Heap → Prop} {d : DefRec} {K : Params → PySem.W.Frag} {k : Nat} (hr : Room k callerA) (hn : l.most = some 63) (hdf : d.params.defaults = [])
    (hY : ∀ (w : World) (h : Heap), YP w h → (K w.params).In h)
    (F : ∀ (w : World) (mg : Str → Option Value) (fa : Addr) (h : Heap), (K w.params).In h → h.Ns mainGlobals mg → mg d.name = some (.ref fa) →
      ∃ fd : FuncData, (∀ (s : Shared) (u : Value), BindsTo s fd ⟨[u], []⟩ [("script", u)]) ∧ ∀ base : Heap, (K w.params).In base → base.Ns mainGlobals mg → FnOk l.prog w (K w.params) mg base (L2.CX l.prog w) k fa fd ["script"] (spLaw (K w.params))) :
    PySem.W.WalkO q loose XP YP l.row.toRowW d [] (fun f vs => PySem.call f vs) :=
  L2.walk_ofB (n := 63) (k := k) (x := "script") (CX := fun w => L2.CX l.prog w) (sp := fun w => spLaw (K w.params)) hn (by decide) hdf hr hY F (fun w H a ns hl hb _ hS => ⟨a, ns, rfl, hS, ⟨hl, fun z hz => bits_bt (hb z hz)⟩, fun _ => rfl⟩) fun _ _ _ _ _ z => by
    obtain ⟨_, _, _, _, _, _, _, _, _, _, _, _, e⟩ := z
    exact e
end DL
namespace Py
open PySem PySem.Spec PyProof.Rows L2 DL
def topS (i : Nat) : Stmt := PySem.Challenge.pw_stakefield_k56_alike_by_trying.main.body.getD i (.Pass ⟨0, 0, 0, 0⟩)
structure Bs (mg : MG) : Prop where
  abs_ : mg "abs" = none
  bool_ : mg "bool" = none
  int_ : mg "int" = none
  isinstance_ : mg "isinstance" = none
  len_ : mg "len" = none
  list_ : mg "list" = none
  min_ : mg "min" = none
  range_ : mg "range" = none
  reversed_ : mg "reversed" = none
  set_ : mg "set" = none
  sorted_ : mg "sorted" = none
  tuple_ : mg "tuple" = none
def exM : List (Str × Str × Bool) := []
def exI : List (Str × Str × Bool) := []
structure Es (K : PySem.W.Frag) (mg : MG) : Prop where
  r_Flat : Xr K mg "Flat"
  r_NoField : Xr K mg "NoField"
  r_NoMove : Xr K mg "NoMove"
  xs : Xs K mg exM exI
/-! ### is_whole -/
abbrev s_is_whole : Stmt := topS 6
theorem sc_is_whole : FnScope ["thing"] ["thing"] (defScope s_is_whole) := ⟨rfl, rfl, rfl, by decide +kernel, rfl, by decide +kernel, by decide +kernel⟩
abbrev ms_is_whole : List Bool := [false]
def d_is_whole : DS :=
  sRet (dAnd (dIsi .int (dVar 0)) (dNot (dIsi .bool (dVar 0))))
theorem ok_is_whole {P : Program} {w : World} {K : PySem.W.Frag} {mg : MG} {base : Heap} {f : Addr} {fd : FuncData}  {S : Fsp} (F : Fun K "is_whole" "is_whole" s_is_whole f fd) (hm : mg "is_whole" = some (.ref f)) (bb : Binds K fd ["thing"] []) (B : Bs mg) (EX : Es K mg) 
    (sem : ∀ ds κ ε, S ds κ ε → d_is_whole  (endsOf κ ε) (entry ms_is_whole 1 ds)) : Cal P w K mg base 1 "is_whole" ["thing"] ms_is_whole S :=
  ⟨f, fd, fn_dl (k := 0) F sc_is_whole rfl (fun cdv A outer s H E C => mss_one (ms_ret (me_and (me_isi .int (by decide +kernel) B.isinstance_ B.int_ (me_var 0)) (me_one (me_not (me_isi .bool (by decide +kernel) B.isinstance_ B.bool_ (me_var 0))))))) sem, hm, F.kp, bb⟩
/-! ### shares -/
abbrev s_shares : Stmt := topS 7
theorem sc_shares : FnScope ["a", "b", "high", "low", "s", "after", "times"] ["a", "b"] (defScope s_shares) := ⟨rfl, rfl, rfl, by decide +kernel, rfl, by decide +kernel, by decide +kernel⟩
abbrev ms_shares : List Bool := [false, false]
def b_shares_1 : DT :=
  tVal (dNe (dVar 3) (dC (.int 0)))
def b_shares_2 : DS :=
  sSeq (sAsg (dDiv (dVar 2) (dVar 3)) (gN 6))
  (sSeq (sPar 2 3 (aCons (dVar 3) (aCons (dSub (dVar 2) (dMul (dVar 6) (dVar 3))) (aNil))))
  (sPar 4 5 (aCons (dVar 5) (aCons (dSub (dVar 4) (dMul (dVar 6) (dVar 5))) (aNil)))))
def t_shares_8 : DS :=
  sRet (dTup (aCons (dVar 2) (aCons (dVar 4) (aCons (dDiv (dSub (dVar 2) (dMul (dVar 4) (dVar 0))) (dVar 1)) (aNil)))))
def t_shares_7 : DS :=
  sSeq (sAsg (dMod (dVar 4) (dDiv (dB kAbs (aCons (dVar 1) (aNil))) (dVar 2))) (gN 4))
  t_shares_8
def t_shares_6 : DS :=
  sSeq (sIf (tVal (dLt (dVar 2) (dC (.int 0))))
  (sSeq (sAsg (dNeg (dVar 2)) (gN 2))
  (sAsg (dNeg (dVar 4)) (gN 4)))
  (sNil))
  t_shares_7
def t_shares_5 : DS :=
  sSeq (sWhile b_shares_1 b_shares_2)
  t_shares_6
def t_shares_4 : DS :=
  sSeq (sAsg (dC (.int 0)) (gN 5))
  t_shares_5
def t_shares_3 : DS :=
  sSeq (sAsg (dC (.int 1)) (gN 4))
  t_shares_4
def t_shares_2 : DS :=
  sSeq (sAsg (dVar 1) (gN 3))
  t_shares_3
def t_shares_1 : DS :=
  sSeq (sAsg (dVar 0) (gN 2))
  t_shares_2
def d_shares : DS :=
  sSeq (sIf (tVal (dEq (dVar 1) (dC (.int 0))))
  (sSeq (sIf (tVal (dLt (dVar 0) (dC (.int 0))))
  (sRet (dTup (aCons (dNeg (dVar 0)) (aCons (dNeg (dC (.int 1))) (aCons (dC (.int 0)) (aNil))))))
  (sNil))
  (sRet (dTup (aCons (dVar 0) (aCons (dB kInt1 (aCons (dGt (dVar 0) (dC (.int 0))) (aNil))) (aCons (dC (.int 0)) (aNil)))))))
  (sNil))
  t_shares_1
theorem ok_shares {P : Program} {w : World} {K : PySem.W.Frag} {mg : MG} {base : Heap} {f : Addr} {fd : FuncData}  {S : Fsp} (F : Fun K "shares" "shares" s_shares f fd) (hm : mg "shares" = some (.ref f)) (bb : Binds K fd ["a", "b"] []) (B : Bs mg) (EX : Es K mg) 
    (sem : ∀ ds κ ε, S ds κ ε → d_shares  (endsOf κ ε) (entry ms_shares 7 ds)) : Cal P w K mg base 1 "shares" ["a", "b"] ms_shares S :=
  ⟨f, fd, fn_dl (k := 0) F sc_shares rfl (fun cdv A outer s H E C => mss_cons (ms_if (mt_eq C.hr.units (me_var 1) (me_int))
  (mss_cons (ms_if (mt_lt (me_var 0) (me_int))
  (mss_one (ms_ret (me_tup (ma_cons (me_neg (me_var 0)) (ma_cons (me_neg (me_int)) (ma_cons (me_int) (ma_nil)))))))
  (mss_nil))
  (mss_one (ms_ret (me_tup (ma_cons (me_var 0) (ma_cons (me_toInt B.int_ (ma_cons (me_gt (me_var 0) (me_int)) (ma_nil))) (ma_cons (me_int) (ma_nil))))))))
  (mss_nil))
  (mss_cons (ms_set 2 C.nd (me_var 0))
  (mss_cons (ms_set 3 C.nd (me_var 1))
  (mss_cons (ms_set 4 C.nd (me_int))
  (mss_cons (ms_set 5 C.nd (me_int))
  (mss_cons (ms_while C (mt_ne C.hr.units (me_var 3) (me_int))
  (mss_cons (ms_set 6 C.nd (me_div (me_var 2) (me_var 3)))
  (mss_cons (ms_par 2 3 C.hc C.nd (ma_cons (me_var 3) (ma_cons (me_sub (me_var 2) (me_mul (me_var 6) (me_var 3))) (ma_nil))))
  (mss_one (ms_par 4 5 C.hc C.nd (ma_cons (me_var 5) (ma_cons (me_sub (me_var 4) (me_mul (me_var 6) (me_var 5))) (ma_nil))))))))
  (mss_cons (ms_if (mt_lt (me_var 2) (me_int))
  (mss_cons (ms_set 2 C.nd (me_neg (me_var 2)))
  (mss_one (ms_set 4 C.nd (me_neg (me_var 4)))))
  (mss_nil))
  (mss_cons (ms_set 4 C.nd (me_mod (me_var 4) (me_div (me_abs B.abs_ (ma_cons (me_var 1) (ma_nil))) (me_var 2))))
  (mss_one (ms_ret (me_tup (ma_cons (me_var 2) (ma_cons (me_var 4) (ma_cons (me_div (me_sub (me_var 2) (me_mul (me_var 4) (me_var 0))) (me_var 1)) (ma_nil))))))))))))))) sem, hm, F.kp, bb⟩
/-! ### is_move -/
abbrev s_is_move : Stmt := topS 9
theorem sc_is_move : FnScope ["thing", "part"] ["thing"] (defScope s_is_move) := ⟨rfl, rfl, rfl, by decide +kernel, rfl, by decide +kernel, by decide +kernel⟩
abbrev ms_is_move : List Bool := [false]
def b_is_move_1 (S_is_whole : Fsp) : DS :=
  sIf (tNotD (tVal (dCall ms_is_whole S_is_whole (aCons (dVar 1) (aNil)))))
  (sRet (dC (.bl false)))
  (sNil)
def t_is_move_2 (S_is_whole : Fsp) : DS :=
  sRet (dEq (dB kAbs (aCons (dSub (dMul (dIx (dVar 0) (dC (.int 0))) (dIx (dVar 0) (dC (.int 3)))) (dMul (dIx (dVar 0) (dC (.int 1))) (dIx (dVar 0) (dC (.int 2))))) (aNil))) (dC (.int 1)))
def t_is_move_1 (S_is_whole : Fsp) : DS :=
  sSeq (sFor (iLst false (dVar 0)) (gN 1) (b_is_move_1 S_is_whole))
  (t_is_move_2 S_is_whole)
def d_is_move (S_is_whole : Fsp) : DS :=
  sSeq (sIf (tOrD (tNotD (tVal (dIsi .tuple (dVar 0)))) (tVal (dNe (dB kLen (aCons (dVar 0) (aNil))) (dC (.int 6)))))
  (sRet (dC (.bl false)))
  (sNil))
  (t_is_move_1 S_is_whole)
theorem ok_is_move {P : Program} {w : World} {K : PySem.W.Frag} {mg : MG} {base : Heap} {f : Addr} {fd : FuncData} {S_is_whole : Fsp} {S : Fsp} (F : Fun K "is_move" "is_move" s_is_move f fd) (hm : mg "is_move" = some (.ref f)) (bb : Binds K fd ["thing"] []) (B : Bs mg) (EX : Es K mg) (F_is_whole : Cal P w K mg base 1 "is_whole" ["thing"] ms_is_whole S_is_whole)
    (sem : ∀ ds κ ε, S ds κ ε → d_is_move S_is_whole (endsOf κ ε) (entry ms_is_move 2 ds)) : Cal P w K mg base 2 "is_move" ["thing"] ms_is_move S :=
  ⟨f, fd, fn_dl (k := 1) F sc_is_move rfl (fun cdv A outer s H E C => mss_cons (ms_if ((mw_or (mt_not (mt_val (me_isi .tuple (by decide +kernel) B.isinstance_ B.tuple_ (me_var 0)))) (mw_or1 (mt_ne C.hr.units (me_len B.len_ (ma_cons (me_var 0) (ma_nil))) (me_int)))).mt)
  (mss_one (ms_ret (me_bl)))
  (mss_nil))
  (mss_cons (ms_for C (mi_list (me_var 0)) (mg_name 1 C.nd)
  (mss_one (ms_if (mt_not (mt_val (me_callC C F_is_whole (ma_cons (me_var 1) (ma_nil)))))
  (mss_one (ms_ret (me_bl)))
  (mss_nil))))
  (mss_one (ms_ret (me_eq C.hr.units (me_abs B.abs_ (ma_cons (me_sub (me_mul (me_ix (me_var 0) (me_int)) (me_ix (me_var 0) (me_int))) (me_mul (me_ix (me_var 0) (me_int)) (me_ix (me_var 0) (me_int)))) (ma_nil))) (me_int)))))) sem, hm, F.kp, bb⟩
/-! ### need_move -/
abbrev s_need_move : Stmt := topS 10
theorem sc_need_move : FnScope ["thing"] ["thing"] (defScope s_need_move) := ⟨rfl, rfl, rfl, by decide +kernel, rfl, by decide +kernel, by decide +kernel⟩
abbrev ms_need_move : List Bool := [false]
def d_need_move (S_is_move : Fsp) : DS :=
  sIf (tNotD (tVal (dCall ms_is_move S_is_move (aCons (dVar 0) (aNil)))))
  (sRaise "NoMove")
  (sNil)
theorem ok_need_move {P : Program} {w : World} {K : PySem.W.Frag} {mg : MG} {base : Heap} {f : Addr} {fd : FuncData} {S_is_move : Fsp} {S : Fsp} (F : Fun K "need_move" "need_move" s_need_move f fd) (hm : mg "need_move" = some (.ref f)) (bb : Binds K fd ["thing"] []) (B : Bs mg) (EX : Es K mg) (F_is_move : Cal P w K mg base 2 "is_move" ["thing"] ms_is_move S_is_move)
    (sem : ∀ ds κ ε, S ds κ ε → d_need_move S_is_move (endsOf κ ε) (entry ms_need_move 1 ds)) : Cal P w K mg base 3 "need_move" ["thing"] ms_need_move S :=
  ⟨f, fd, fn_dl (k := 2) F sc_need_move rfl (fun cdv A outer s H E C => mss_one (ms_if (mt_not (mt_val (me_callC C F_is_move (ma_cons (me_var 0) (ma_nil)))))
  (mss_one (ms_raise C.hc C.tk EX.r_NoMove))
  (mss_nil))) sem, hm, F.kp, bb⟩
/-! ### moved -/
abbrev s_moved : Stmt := topS 11
theorem sc_moved : FnScope ["P", "move", "a", "b", "c", "d", "e", "f"] ["P", "move"] (defScope s_moved) := ⟨rfl, rfl, rfl, by decide +kernel, rfl, by decide +kernel, by decide +kernel⟩
abbrev ms_moved : List Bool := [false, false]
def t_moved_2 (S_need_move : Fsp) : DS :=
  sRet (dTup (aCons (dAdd (dAdd (dMul (dVar 2) (dIx (dVar 0) (dC (.int 0)))) (dMul (dVar 3) (dIx (dVar 0) (dC (.int 1))))) (dVar 6)) (aCons (dAdd (dAdd (dMul (dVar 4) (dIx (dVar 0) (dC (.int 0)))) (dMul (dVar 5) (dIx (dVar 0) (dC (.int 1))))) (dVar 7)) (aNil))))
def t_moved_1 (S_need_move : Fsp) : DS :=
  sSeq (sAsg (dVar 1) (gT 6 (gsCons (gN 2) (gsCons (gN 3) (gsCons (gN 4) (gsCons (gN 5) (gsCons (gN 6) (gsCons (gN 7) (gsNil)))))))))
  (t_moved_2 S_need_move)
def d_moved (S_need_move : Fsp) : DS :=
  sSeq (sDrop (dCall ms_need_move S_need_move (aCons (dVar 1) (aNil))))
  (t_moved_1 S_need_move)
theorem ok_moved {P : Program} {w : World} {K : PySem.W.Frag} {mg : MG} {base : Heap} {f : Addr} {fd : FuncData} {S_need_move : Fsp} {S : Fsp} (F : Fun K "moved" "moved" s_moved f fd) (hm : mg "moved" = some (.ref f)) (bb : Binds K fd ["P", "move"] []) (B : Bs mg) (EX : Es K mg) (F_need_move : Cal P w K mg base 3 "need_move" ["thing"] ms_need_move S_need_move)
    (sem : ∀ ds κ ε, S ds κ ε → d_moved S_need_move (endsOf κ ε) (entry ms_moved 8 ds)) : Cal P w K mg base 4 "moved" ["P", "move"] ms_moved S :=
  ⟨f, fd, fn_dl (k := 3) F sc_moved rfl (fun cdv A outer s H E C => mss_cons (ms_drop (me_callC C F_need_move (ma_cons (me_var 1) (ma_nil))))
  (mss_cons (ms_asg (me_var 1) (mg_tup C.hc (mgs_cons (mg_name 2 C.nd) (mgs_cons (mg_name 3 C.nd) (mgs_cons (mg_name 4 C.nd) (mgs_cons (mg_name 5 C.nd) (mgs_cons (mg_name 6 C.nd) (mgs_cons (mg_name 7 C.nd) (mgs_nil)))))))))
  (mss_one (ms_ret (me_tup (ma_cons (me_add (me_add (me_mul (me_var 2) (me_ix (me_var 0) (me_int))) (me_mul (me_var 3) (me_ix (me_var 0) (me_int)))) (me_var 6)) (ma_cons (me_add (me_add (me_mul (me_var 4) (me_ix (me_var 0) (me_int))) (me_mul (me_var 5) (me_ix (me_var 0) (me_int)))) (me_var 7)) (ma_nil)))))))) sem, hm, F.kp, bb⟩
/-! ### behind -/
abbrev s_behind : Stmt := topS 12
theorem sc_behind : FnScope ["first", "second", "origin", "right", "high", "sides"] ["first", "second"] (defScope s_behind) := ⟨rfl, rfl, rfl, by decide +kernel, rfl, by decide +kernel, by decide +kernel⟩
abbrev ms_behind : List Bool := [false, false]
def t_behind_6 (S_need_move : Fsp) (S_moved : Fsp) : DS :=
  sRet (dPlus (dVar 5) (dVar 2))
def t_behind_5 (S_need_move : Fsp) (S_moved : Fsp) : DS :=
  sSeq (sAsg (dTup (aCons (dSub (dIx (dVar 3) (dC (.int 0))) (dIx (dVar 2) (dC (.int 0)))) (aCons (dSub (dIx (dVar 4) (dC (.int 0))) (dIx (dVar 2) (dC (.int 0)))) (aCons (dSub (dIx (dVar 3) (dC (.int 1))) (dIx (dVar 2) (dC (.int 1)))) (aCons (dSub (dIx (dVar 4) (dC (.int 1))) (dIx (dVar 2) (dC (.int 1)))) (aNil)))))) (gN 5))
  (t_behind_6 S_need_move S_moved)
def t_behind_4 (S_need_move : Fsp) (S_moved : Fsp) : DS :=
  sSeq (sAsg (dCall ms_moved S_moved (aCons (dCall ms_moved S_moved (aCons (dTup (aCons (dC (.int 0)) (aCons (dC (.int 1)) (aNil)))) (aCons (dVar 0) (aNil)))) (aCons (dVar 1) (aNil)))) (gN 4))
  (t_behind_5 S_need_move S_moved)
def t_behind_3 (S_need_move : Fsp) (S_moved : Fsp) : DS :=
  sSeq (sAsg (dCall ms_moved S_moved (aCons (dCall ms_moved S_moved (aCons (dTup (aCons (dC (.int 1)) (aCons (dC (.int 0)) (aNil)))) (aCons (dVar 0) (aNil)))) (aCons (dVar 1) (aNil)))) (gN 3))
  (t_behind_4 S_need_move S_moved)
def t_behind_2 (S_need_move : Fsp) (S_moved : Fsp) : DS :=
  sSeq (sAsg (dCall ms_moved S_moved (aCons (dCall ms_moved S_moved (aCons (dTup (aCons (dC (.int 0)) (aCons (dC (.int 0)) (aNil)))) (aCons (dVar 0) (aNil)))) (aCons (dVar 1) (aNil)))) (gN 2))
  (t_behind_3 S_need_move S_moved)
def t_behind_1 (S_need_move : Fsp) (S_moved : Fsp) : DS :=
  sSeq (sDrop (dCall ms_need_move S_need_move (aCons (dVar 1) (aNil))))
  (t_behind_2 S_need_move S_moved)
def d_behind (S_need_move : Fsp) (S_moved : Fsp) : DS :=
  sSeq (sDrop (dCall ms_need_move S_need_move (aCons (dVar 0) (aNil))))
  (t_behind_1 S_need_move S_moved)
theorem ok_behind {P : Program} {w : World} {K : PySem.W.Frag} {mg : MG} {base : Heap} {f : Addr} {fd : FuncData} {S_need_move : Fsp} {S_moved : Fsp} {S : Fsp} (F : Fun K "behind" "behind" s_behind f fd) (hm : mg "behind" = some (.ref f)) (bb : Binds K fd ["first", "second"] []) (B : Bs mg) (EX : Es K mg) (F_need_move : Cal P w K mg base 3 "need_move" ["thing"] ms_need_move S_need_move) (F_moved : Cal P w K mg base 4 "moved" ["P", "move"] ms_moved S_moved)
    (sem : ∀ ds κ ε, S ds κ ε → d_behind S_need_move S_moved (endsOf κ ε) (entry ms_behind 6 ds)) : Cal P w K mg base 5 "behind" ["first", "second"] ms_behind S :=
  ⟨f, fd, fn_dl (k := 4) F sc_behind rfl (fun cdv A outer s H E C => mss_cons (ms_drop (me_callC C F_need_move (ma_cons (me_var 0) (ma_nil))))
  (mss_cons (ms_drop (me_callC C F_need_move (ma_cons (me_var 1) (ma_nil))))
  (mss_cons (ms_set 2 C.nd (me_callC C F_moved (ma_cons (me_callC C F_moved (ma_cons (me_tup (ma_cons (me_int) (ma_cons (me_int) (ma_nil)))) (ma_cons (me_var 0) (ma_nil)))) (ma_cons (me_var 1) (ma_nil)))))
  (mss_cons (ms_set 3 C.nd (me_callC C F_moved (ma_cons (me_callC C F_moved (ma_cons (me_tup (ma_cons (me_int) (ma_cons (me_int) (ma_nil)))) (ma_cons (me_var 0) (ma_nil)))) (ma_cons (me_var 1) (ma_nil)))))
  (mss_cons (ms_set 4 C.nd (me_callC C F_moved (ma_cons (me_callC C F_moved (ma_cons (me_tup (ma_cons (me_int) (ma_cons (me_int) (ma_nil)))) (ma_cons (me_var 0) (ma_nil)))) (ma_cons (me_var 1) (ma_nil)))))
  (mss_cons (ms_set 5 C.nd (me_tup (ma_cons (me_sub (me_ix (me_var 3) (me_int)) (me_ix (me_var 2) (me_int))) (ma_cons (me_sub (me_ix (me_var 4) (me_int)) (me_ix (me_var 2) (me_int))) (ma_cons (me_sub (me_ix (me_var 3) (me_int)) (me_ix (me_var 2) (me_int))) (ma_cons (me_sub (me_ix (me_var 4) (me_int)) (me_ix (me_var 2) (me_int))) (ma_nil)))))))
  (mss_one (ms_ret (me_plus (me_var 5) (me_var 2)))))))))) sem, hm, F.kp, bb⟩
/-! ### way_back -/
abbrev s_way_back : Stmt := topS 13
theorem sc_way_back : FnScope ["move", "a", "b", "c", "d", "e", "f", "hand"] ["move"] (defScope s_way_back) := ⟨rfl, rfl, rfl, by decide +kernel, rfl, by decide +kernel, by decide +kernel⟩
abbrev ms_way_back : List Bool := [false]
def t_way_back_3 (S_need_move : Fsp) : DS :=
  sRet (dTup (aCons (dMul (dVar 7) (dVar 4)) (aCons (dMul (dNeg (dVar 7)) (dVar 2)) (aCons (dMul (dNeg (dVar 7)) (dVar 3)) (aCons (dMul (dVar 7) (dVar 1)) (aCons (dMul (dVar 7) (dSub (dMul (dVar 2) (dVar 6)) (dMul (dVar 4) (dVar 5)))) (aCons (dMul (dVar 7) (dSub (dMul (dVar 3) (dVar 5)) (dMul (dVar 1) (dVar 6)))) (aNil))))))))
def t_way_back_2 (S_need_move : Fsp) : DS :=
  sSeq (sAsg (dSub (dMul (dVar 1) (dVar 4)) (dMul (dVar 2) (dVar 3))) (gN 7))
  (t_way_back_3 S_need_move)
def t_way_back_1 (S_need_move : Fsp) : DS :=
  sSeq (sAsg (dVar 0) (gT 6 (gsCons (gN 1) (gsCons (gN 2) (gsCons (gN 3) (gsCons (gN 4) (gsCons (gN 5) (gsCons (gN 6) (gsNil)))))))))
  (t_way_back_2 S_need_move)
def d_way_back (S_need_move : Fsp) : DS :=
  sSeq (sDrop (dCall ms_need_move S_need_move (aCons (dVar 0) (aNil))))
  (t_way_back_1 S_need_move)
theorem ok_way_back {P : Program} {w : World} {K : PySem.W.Frag} {mg : MG} {base : Heap} {f : Addr} {fd : FuncData} {S_need_move : Fsp} {S : Fsp} (F : Fun K "way_back" "way_back" s_way_back f fd) (hm : mg "way_back" = some (.ref f)) (bb : Binds K fd ["move"] []) (B : Bs mg) (EX : Es K mg) (F_need_move : Cal P w K mg base 3 "need_move" ["thing"] ms_need_move S_need_move)
    (sem : ∀ ds κ ε, S ds κ ε → d_way_back S_need_move (endsOf κ ε) (entry ms_way_back 8 ds)) : Cal P w K mg base 4 "way_back" ["move"] ms_way_back S :=
  ⟨f, fd, fn_dl (k := 3) F sc_way_back rfl (fun cdv A outer s H E C => mss_cons (ms_drop (me_callC C F_need_move (ma_cons (me_var 0) (ma_nil))))
  (mss_cons (ms_asg (me_var 0) (mg_tup C.hc (mgs_cons (mg_name 1 C.nd) (mgs_cons (mg_name 2 C.nd) (mgs_cons (mg_name 3 C.nd) (mgs_cons (mg_name 4 C.nd) (mgs_cons (mg_name 5 C.nd) (mgs_cons (mg_name 6 C.nd) (mgs_nil)))))))))
  (mss_cons (ms_set 7 C.nd (me_sub (me_mul (me_var 1) (me_var 4)) (me_mul (me_var 2) (me_var 3))))
  (mss_one (ms_ret (me_tup (ma_cons (me_mul (me_var 7) (me_var 4)) (ma_cons (me_mul (me_neg (me_var 7)) (me_var 2)) (ma_cons (me_mul (me_neg (me_var 7)) (me_var 3)) (ma_cons (me_mul (me_var 7) (me_var 1)) (ma_cons (me_mul (me_var 7) (me_sub (me_mul (me_var 2) (me_var 6)) (me_mul (me_var 4) (me_var 5)))) (ma_cons (me_mul (me_var 7) (me_sub (me_mul (me_var 3) (me_var 5)) (me_mul (me_var 1) (me_var 6)))) (ma_nil))))))))))))) sem, hm, F.kp, bb⟩
/-! ### steps -/
abbrev s_steps : Stmt := topS 14
theorem sc_steps : FnScope ["P", "Q"] ["P", "Q"] (defScope s_steps) := ⟨rfl, rfl, rfl, by decide +kernel, rfl, by decide +kernel, by decide +kernel⟩
abbrev ms_steps : List Bool := [false, false]
def d_steps (S_shares : Fsp) : DS :=
  sRet (dIx (dCall ms_shares S_shares (aCons (dSub (dIx (dVar 1) (dC (.int 0))) (dIx (dVar 0) (dC (.int 0)))) (aCons (dSub (dIx (dVar 1) (dC (.int 1))) (dIx (dVar 0) (dC (.int 1)))) (aNil)))) (dC (.int 0)))
theorem ok_steps {P : Program} {w : World} {K : PySem.W.Frag} {mg : MG} {base : Heap} {f : Addr} {fd : FuncData} {S_shares : Fsp} {S : Fsp} (F : Fun K "steps" "steps" s_steps f fd) (hm : mg "steps" = some (.ref f)) (bb : Binds K fd ["P", "Q"] []) (B : Bs mg) (EX : Es K mg) (F_shares : Cal P w K mg base 1 "shares" ["a", "b"] ms_shares S_shares)
    (sem : ∀ ds κ ε, S ds κ ε → d_steps S_shares (endsOf κ ε) (entry ms_steps 2 ds)) : Cal P w K mg base 2 "steps" ["P", "Q"] ms_steps S :=
  ⟨f, fd, fn_dl (k := 1) F sc_steps rfl (fun cdv A outer s H E C => mss_one (ms_ret (me_ix (me_callC C F_shares (ma_cons (me_sub (me_ix (me_var 1) (me_int)) (me_ix (me_var 0) (me_int))) (ma_cons (me_sub (me_ix (me_var 1) (me_int)) (me_ix (me_var 0) (me_int))) (ma_nil)))) (me_int)))) sem, hm, F.kp, bb⟩
/-! ### level -/
abbrev s_level : Stmt := topS 15
theorem sc_level : FnScope ["P", "Q", "many", "u", "v", "one", "s", "t"] ["P", "Q"] (defScope s_level) := ⟨rfl, rfl, rfl, by decide +kernel, rfl, by decide +kernel, by decide +kernel⟩
abbrev ms_level : List Bool := [false, false]
def t_level_5 (S_steps : Fsp) (S_shares : Fsp) : DS :=
  sRet (dTup (aCons (dVar 6) (aCons (dVar 7) (aCons (dNeg (dVar 4)) (aCons (dVar 3) (aCons (dSub (dMul (dNeg (dVar 6)) (dIx (dVar 0) (dC (.int 0)))) (dMul (dVar 7) (dIx (dVar 0) (dC (.int 1))))) (aCons (dSub (dMul (dVar 4) (dIx (dVar 0) (dC (.int 0)))) (dMul (dVar 3) (dIx (dVar 0) (dC (.int 1))))) (aNil))))))))
def t_level_4 (S_steps : Fsp) (S_shares : Fsp) : DS :=
  sSeq (sAsg (dCall ms_shares S_shares (aCons (dVar 3) (aCons (dVar 4) (aNil)))) (gT 3 (gsCons (gN 5) (gsCons (gN 6) (gsCons (gN 7) (gsNil))))))
  (t_level_5 S_steps S_shares)
def t_level_3 (S_steps : Fsp) (S_shares : Fsp) : DS :=
  sSeq (sAsg (dDivP (dSub (dIx (dVar 1) (dC (.int 1))) (dIx (dVar 0) (dC (.int 1)))) (dVar 2)) (gN 4))
  (t_level_4 S_steps S_shares)
def t_level_2 (S_steps : Fsp) (S_shares : Fsp) : DS :=
  sSeq (sAsg (dDivP (dSub (dIx (dVar 1) (dC (.int 0))) (dIx (dVar 0) (dC (.int 0)))) (dVar 2)) (gN 3))
  (t_level_3 S_steps S_shares)
def t_level_1 (S_steps : Fsp) (S_shares : Fsp) : DS :=
  sSeq (sAsg (dCall ms_steps S_steps (aCons (dVar 0) (aCons (dVar 1) (aNil)))) (gN 2))
  (t_level_2 S_steps S_shares)
def d_level (S_steps : Fsp) (S_shares : Fsp) : DS :=
  sSeq (sIf (tVal (dEq (dVar 0) (dVar 1)))
  (sRaise "NoMove")
  (sNil))
  (t_level_1 S_steps S_shares)
theorem ok_level {P : Program} {w : World} {K : PySem.W.Frag} {mg : MG} {base : Heap} {f : Addr} {fd : FuncData} {S_steps : Fsp} {S_shares : Fsp} {S : Fsp} (F : Fun K "level" "level" s_level f fd) (hm : mg "level" = some (.ref f)) (bb : Binds K fd ["P", "Q"] []) (B : Bs mg) (EX : Es K mg) (F_steps : Cal P w K mg base 2 "steps" ["P", "Q"] ms_steps S_steps) (F_shares : Cal P w K mg base 1 "shares" ["a", "b"] ms_shares S_shares)
    (sem : ∀ ds κ ε, S ds κ ε → d_level S_steps S_shares (endsOf κ ε) (entry ms_level 8 ds)) : Cal P w K mg base 3 "level" ["P", "Q"] ms_level S :=
  ⟨f, fd, fn_dl (k := 2) F sc_level rfl (fun cdv A outer s H E C => mss_cons (ms_if (mt_eq C.hr.units (me_var 0) (me_var 1))
  (mss_one (ms_raise C.hc C.tk EX.r_NoMove))
  (mss_nil))
  (mss_cons (ms_set 2 C.nd (me_callC C F_steps (ma_cons (me_var 0) (ma_cons (me_var 1) (ma_nil)))))
  (mss_cons (ms_set 3 C.nd (me_divP (me_sub (me_ix (me_var 1) (me_int)) (me_ix (me_var 0) (me_int))) (me_var 2)))
  (mss_cons (ms_set 4 C.nd (me_divP (me_sub (me_ix (me_var 1) (me_int)) (me_ix (me_var 0) (me_int))) (me_var 2)))
  (mss_cons (ms_asg (me_callC C F_shares (ma_cons (me_var 3) (ma_cons (me_var 4) (ma_nil)))) (mg_tup C.hc (mgs_cons (mg_name 5 C.nd) (mgs_cons (mg_name 6 C.nd) (mgs_cons (mg_name 7 C.nd) (mgs_nil))))))
  (mss_one (ms_ret (me_tup (ma_cons (me_var 6) (ma_cons (me_var 7) (ma_cons (me_neg (me_var 4)) (ma_cons (me_var 3) (ma_cons (me_sub (me_mul (me_neg (me_var 6)) (me_ix (me_var 0) (me_int))) (me_mul (me_var 7) (me_ix (me_var 0) (me_int)))) (ma_cons (me_sub (me_mul (me_var 4) (me_ix (me_var 0) (me_int))) (me_mul (me_var 3) (me_ix (me_var 0) (me_int)))) (ma_nil))))))))))))))) sem, hm, F.kp, bb⟩
/-! ### turn -/
abbrev s_turn : Stmt := topS 17
theorem sc_turn : FnScope ["one", "two", "three", "ahead", "aside"] ["one", "two", "three"] (defScope s_turn) := ⟨rfl, rfl, rfl, by decide +kernel, rfl, by decide +kernel, by decide +kernel⟩
abbrev ms_turn : List Bool := [false, false, false]
def t_turn_4 : DS :=
  sRet (dC (.int 0))
def t_turn_3 : DS :=
  sSeq (sIf (tVal (dLt (dVar 3) (dVar 4)))
  (sRet (dNeg (dC (.int 1))))
  (sNil))
  t_turn_4
def t_turn_2 : DS :=
  sSeq (sIf (tVal (dGt (dVar 3) (dVar 4)))
  (sRet (dC (.int 1)))
  (sNil))
  t_turn_3
def t_turn_1 : DS :=
  sSeq (sAsg (dMul (dSub (dIx (dVar 1) (dC (.int 1))) (dIx (dVar 0) (dC (.int 1)))) (dSub (dIx (dVar 2) (dC (.int 0))) (dIx (dVar 0) (dC (.int 0))))) (gN 4))
  t_turn_2
def d_turn : DS :=
  sSeq (sAsg (dMul (dSub (dIx (dVar 1) (dC (.int 0))) (dIx (dVar 0) (dC (.int 0)))) (dSub (dIx (dVar 2) (dC (.int 1))) (dIx (dVar 0) (dC (.int 1))))) (gN 3))
  t_turn_1
theorem ok_turn {P : Program} {w : World} {K : PySem.W.Frag} {mg : MG} {base : Heap} {f : Addr} {fd : FuncData}  {S : Fsp} (F : Fun K "turn" "turn" s_turn f fd) (hm : mg "turn" = some (.ref f)) (bb : Binds K fd ["one", "two", "three"] []) (B : Bs mg) (EX : Es K mg) 
    (sem : ∀ ds κ ε, S ds κ ε → d_turn  (endsOf κ ε) (entry ms_turn 5 ds)) : Cal P w K mg base 1 "turn" ["one", "two", "three"] ms_turn S :=
  ⟨f, fd, fn_dl (k := 0) F sc_turn rfl (fun cdv A outer s H E C => mss_cons (ms_set 3 C.nd (me_mul (me_sub (me_ix (me_var 1) (me_int)) (me_ix (me_var 0) (me_int))) (me_sub (me_ix (me_var 2) (me_int)) (me_ix (me_var 0) (me_int)))))
  (mss_cons (ms_set 4 C.nd (me_mul (me_sub (me_ix (me_var 1) (me_int)) (me_ix (me_var 0) (me_int))) (me_sub (me_ix (me_var 2) (me_int)) (me_ix (me_var 0) (me_int)))))
  (mss_cons (ms_if (mt_gt (me_var 3) (me_var 4))
  (mss_one (ms_ret (me_int)))
  (mss_nil))
  (mss_cons (ms_if (mt_lt (me_var 3) (me_var 4))
  (mss_one (ms_ret (me_neg (me_int))))
  (mss_nil))
  (mss_one (ms_ret (me_int))))))) sem, hm, F.kp, bb⟩
/-! ### half_round -/
abbrev s_half_round : Stmt := topS 18
theorem sc_half_round : FnScope ["points", "way", "point"] ["points"] (defScope s_half_round) := ⟨rfl, rfl, rfl, by decide +kernel, rfl, by decide +kernel, by decide +kernel⟩
abbrev ms_half_round : List Bool := [false]
def b_half_round_1 (S_turn : Fsp) : DT :=
  tAndD (tVal (dGt (dB kLen (aCons (dVar 1) (aNil))) (dC (.int 1)))) (tVal (dLt (dCall ms_turn S_turn (aCons (dIx (dVar 1) (dNeg (dC (.int 2)))) (aCons (dIx (dVar 1) (dNeg (dC (.int 1)))) (aCons (dVar 2) (aNil))))) (dC (.int 1))))
def b_half_round_2 : DS :=
  sPop 1 gDrop
def b_half_round_3 (S_turn : Fsp) : DS :=
  sSeq (sWhile (b_half_round_1 S_turn) b_half_round_2)
  (sApp 1 (dVar 2))
def t_half_round_2 (S_turn : Fsp) : DS :=
  sRetV 1
def t_half_round_1 (S_turn : Fsp) : DS :=
  sSeq (sFor (iLst false (dVar 0)) (gN 2) (b_half_round_3 S_turn))
  (t_half_round_2 S_turn)
def d_half_round (S_turn : Fsp) : DS :=
  sSeq (sAsg (dLst (aNil)) (gN 1))
  (t_half_round_1 S_turn)
theorem ok_half_round {P : Program} {w : World} {K : PySem.W.Frag} {mg : MG} {base : Heap} {f : Addr} {fd : FuncData} {S_turn : Fsp} {S : Fsp} (F : Fun K "half_round" "half_round" s_half_round f fd) (hm : mg "half_round" = some (.ref f)) (bb : Binds K fd ["points"] []) (B : Bs mg) (EX : Es K mg) (F_turn : Cal P w K mg base 1 "turn" ["one", "two", "three"] ms_turn S_turn)
    (sem : ∀ ds κ ε, S ds κ ε → d_half_round S_turn (endsOf κ ε) (entry ms_half_round 3 ds)) : Cal P w K mg base 2 "half_round" ["points"] ms_half_round S :=
  ⟨f, fd, fn_dl (k := 1) F sc_half_round rfl (fun cdv A outer s H E C => mss_cons (ms_set 1 C.nd (me_lst (ma_nil)))
  (mss_cons (ms_for C (mi_list (me_var 0)) (mg_name 2 C.nd)
  (mss_cons (ms_while C ((mw_and (mt_gt (me_len B.len_ (ma_cons (me_var 1) (ma_nil))) (me_int)) (mw_and1 (mt_lt (me_callC C F_turn (ma_cons (me_ix (me_var 1) (me_neg (me_int))) (ma_cons (me_ix (me_var 1) (me_neg (me_int))) (ma_cons (me_var 2) (ma_nil))))) (me_int)))).mt)
  (mss_one (ms_popD 1)))
  (mss_one (ms_app 1 (me_var 2)))))
  (mss_one (ms_retV 1)))) sem, hm, F.kp, bb⟩
/-! ### field -/
abbrev s_field : Stmt := topS 19
theorem sc_field : FnScope ["points", "some"] ["points"] (defScope s_field) := ⟨rfl, rfl, rfl, by decide +kernel, rfl, by decide +kernel, by decide +kernel⟩
abbrev ms_field : List Bool := [false]
def t_field_3 (S_half_round : Fsp) : DS :=
  sRet (dCat (dCut (dCall ms_half_round S_half_round (aCons (dVar 1) (aNil))) (oNone) (oSome (dNeg (dC (.int 1))))) (dCut (dCall ms_half_round S_half_round (aCons (dRev (dVar 1)) (aNil))) (oNone) (oSome (dNeg (dC (.int 1))))))
def t_field_2 (S_half_round : Fsp) : DS :=
  sSeq (sIf (tVal (dEq (dB kLen (aCons (dVar 1) (aNil))) (dC (.int 1))))
  (sRetV 1)
  (sNil))
  (t_field_3 S_half_round)
def t_field_1 (S_half_round : Fsp) : DS :=
  sSeq (sAsg (dSortedSet (dVar 0)) (gN 1))
  (t_field_2 S_half_round)
def d_field (S_half_round : Fsp) : DS :=
  sSeq (sIf (tVal (dEq (dB kLen (aCons (dVar 0) (aNil))) (dC (.int 0))))
  (sRaise "NoField")
  (sNil))
  (t_field_1 S_half_round)
theorem ok_field {P : Program} {w : World} {K : PySem.W.Frag} {mg : MG} {base : Heap} {f : Addr} {fd : FuncData} {S_half_round : Fsp} {S : Fsp} (F : Fun K "field" "field" s_field f fd) (hm : mg "field" = some (.ref f)) (bb : Binds K fd ["points"] []) (B : Bs mg) (EX : Es K mg) (F_half_round : Cal P w K mg base 2 "half_round" ["points"] ms_half_round S_half_round)
    (sem : ∀ ds κ ε, S ds κ ε → d_field S_half_round (endsOf κ ε) (entry ms_field 2 ds)) : Cal P w K mg base 3 "field" ["points"] ms_field S :=
  ⟨f, fd, fn_dl (k := 2) F sc_field rfl (fun cdv A outer s H E C => mss_cons (ms_if (mt_eq C.hr.units (me_len B.len_ (ma_cons (me_var 0) (ma_nil))) (me_int))
  (mss_one (ms_raise C.hc C.tk EX.r_NoField))
  (mss_nil))
  (mss_cons (ms_set 1 C.nd (me_sortedSet C B.sorted_ B.set_ (me_var 0)))
  (mss_cons (ms_if (mt_eq C.hr.units (me_len B.len_ (ma_cons (me_var 1) (ma_nil))) (me_int))
  (mss_one (ms_retV 1))
  (mss_nil))
  (mss_one (ms_ret (me_cat (me_cut (me_callC C F_half_round (ma_cons (me_var 1) (ma_nil))) (mo_none) (mo_some (me_neg (me_int)))) (me_cut (me_callC C F_half_round (ma_cons (me_listRev C B.list_ B.reversed_ (me_var 1)) (ma_nil))) (mo_none) (mo_some (me_neg (me_int)))))))))) sem, hm, F.kp, bb⟩
/-! ### field_moved -/
abbrev s_field_moved : Stmt := topS 20
theorem sc_field_moved : FnScope ["land", "move", "corner"] ["land", "move"] (defScope s_field_moved) := ⟨rfl, rfl, rfl, by decide +kernel, rfl, by decide +kernel, by decide +kernel⟩
abbrev ms_field_moved : List Bool := [false, false]
def b_field_moved_1 (S_moved : Fsp) : DE :=
  dCall ms_moved S_moved (aCons (dVar 2) (aCons (dVar 1) (aNil)))
def d_field_moved (S_field : Fsp) (S_moved : Fsp) : DS :=
  sRet (dCall ms_field S_field (aCons (dLc (iLst true (dVar 0)) (gN 2) tYesD (b_field_moved_1 S_moved) [2]) (aNil)))
theorem ok_field_moved {P : Program} {w : World} {K : PySem.W.Frag} {mg : MG} {base : Heap} {f : Addr} {fd : FuncData} {S_field : Fsp} {S_moved : Fsp} {S : Fsp} (F : Fun K "field_moved" "field_moved" s_field_moved f fd) (hm : mg "field_moved" = some (.ref f)) (bb : Binds K fd ["land", "move"] []) (B : Bs mg) (EX : Es K mg) (F_field : Cal P w K mg base 3 "field" ["points"] ms_field S_field) (F_moved : Cal P w K mg base 4 "moved" ["P", "move"] ms_moved S_moved)
    (sem : ∀ ds κ ε, S ds κ ε → d_field_moved S_field S_moved (endsOf κ ε) (entry ms_field_moved 3 ds)) : Cal P w K mg base 5 "field_moved" ["land", "move"] ms_field_moved S :=
  ⟨f, fd, fn_dl (k := 4) F sc_field_moved rfl (fun cdv A outer s H E C => mss_one (ms_ret (me_callC C F_field (ma_cons (me_lc (own := [("corner", 2)]) C (mi_list (me_var 0)) (blkOk_by (N := ["land", "move", "corner"]) (sc := defScope s_field_moved) (by decide +kernel)) (fun _ => mg_name 2 (C).blk.nd) (fun _ => mts_nil) (fun _ => me_callC (C).blk F_moved (ma_cons (me_var 2) (ma_cons (me_var 1) (ma_nil))))) (ma_nil))))) sem, hm, F.kp, bb⟩
/-! ### stand_at -/
abbrev s_stand_at : Stmt := topS 22
theorem sc_stand_at : FnScope ["here", "near", "far", "a", "b", "c", "d", "e", "f", "x", "y", "lean"] ["here", "near", "far"] (defScope s_stand_at) := ⟨rfl, rfl, rfl, by decide +kernel, rfl, by decide +kernel, by decide +kernel⟩
abbrev ms_stand_at : List Bool := [false, false, false]
def t_stand_at_4 (S_level : Fsp) (S_moved : Fsp) : DS :=
  sRet (dTup (aCons (dSub (dVar 3) (dMul (dVar 11) (dVar 5))) (aCons (dSub (dVar 4) (dMul (dVar 11) (dVar 6))) (aCons (dVar 5) (aCons (dVar 6) (aCons (dSub (dVar 7) (dMul (dVar 11) (dVar 8))) (aCons (dVar 8) (aNil))))))))
def t_stand_at_3 (S_level : Fsp) (S_moved : Fsp) : DS :=
  sSeq (sAsg (dDivP (dVar 9) (dVar 10)) (gN 11))
  (t_stand_at_4 S_level S_moved)
def t_stand_at_2 (S_level : Fsp) (S_moved : Fsp) : DS :=
  sSeq (sIf (tVal (dLt (dVar 10) (dC (.int 0))))
  (sAsg (dTup (aCons (dNeg (dVar 5)) (aCons (dNeg (dVar 6)) (aCons (dNeg (dVar 8)) (aCons (dNeg (dVar 10)) (aNil)))))) (gT 4 (gsCons (gN 5) (gsCons (gN 6) (gsCons (gN 8) (gsCons (gN 10) (gsNil)))))))
  (sNil))
  (t_stand_at_3 S_level S_moved)
def t_stand_at_1 (S_level : Fsp) (S_moved : Fsp) : DS :=
  sSeq (sAsg (dCall ms_moved S_moved (aCons (dVar 2) (aCons (dTup (aCons (dVar 3) (aCons (dVar 4) (aCons (dVar 5) (aCons (dVar 6) (aCons (dVar 7) (aCons (dVar 8) (aNil)))))))) (aNil)))) (gT 2 (gsCons (gN 9) (gsCons (gN 10) (gsNil)))))
  (t_stand_at_2 S_level S_moved)
def d_stand_at (S_level : Fsp) (S_moved : Fsp) : DS :=
  sSeq (sAsg (dCall ms_level S_level (aCons (dVar 0) (aCons (dVar 1) (aNil)))) (gT 6 (gsCons (gN 3) (gsCons (gN 4) (gsCons (gN 5) (gsCons (gN 6) (gsCons (gN 7) (gsCons (gN 8) (gsNil)))))))))
  (t_stand_at_1 S_level S_moved)
theorem ok_stand_at {P : Program} {w : World} {K : PySem.W.Frag} {mg : MG} {base : Heap} {f : Addr} {fd : FuncData} {S_level : Fsp} {S_moved : Fsp} {S : Fsp} (F : Fun K "stand_at" "stand_at" s_stand_at f fd) (hm : mg "stand_at" = some (.ref f)) (bb : Binds K fd ["here", "near", "far"] []) (B : Bs mg) (EX : Es K mg) (F_level : Cal P w K mg base 3 "level" ["P", "Q"] ms_level S_level) (F_moved : Cal P w K mg base 4 "moved" ["P", "move"] ms_moved S_moved)
    (sem : ∀ ds κ ε, S ds κ ε → d_stand_at S_level S_moved (endsOf κ ε) (entry ms_stand_at 12 ds)) : Cal P w K mg base 5 "stand_at" ["here", "near", "far"] ms_stand_at S :=
  ⟨f, fd, fn_dl (k := 4) F sc_stand_at rfl (fun cdv A outer s H E C => mss_cons (ms_asg (me_callC C F_level (ma_cons (me_var 0) (ma_cons (me_var 1) (ma_nil)))) (mg_tup C.hc (mgs_cons (mg_name 3 C.nd) (mgs_cons (mg_name 4 C.nd) (mgs_cons (mg_name 5 C.nd) (mgs_cons (mg_name 6 C.nd) (mgs_cons (mg_name 7 C.nd) (mgs_cons (mg_name 8 C.nd) (mgs_nil)))))))))
  (mss_cons (ms_asg (me_callC C F_moved (ma_cons (me_var 2) (ma_cons (me_tup (ma_cons (me_var 3) (ma_cons (me_var 4) (ma_cons (me_var 5) (ma_cons (me_var 6) (ma_cons (me_var 7) (ma_cons (me_var 8) (ma_nil)))))))) (ma_nil)))) (mg_tup C.hc (mgs_cons (mg_name 9 C.nd) (mgs_cons (mg_name 10 C.nd) (mgs_nil)))))
  (mss_cons (ms_if (mt_lt (me_var 10) (me_int))
  (mss_one (ms_asg (me_tup (ma_cons (me_neg (me_var 5)) (ma_cons (me_neg (me_var 6)) (ma_cons (me_neg (me_var 8)) (ma_cons (me_neg (me_var 10)) (ma_nil)))))) (mg_tup C.hc (mgs_cons (mg_name 5 C.nd) (mgs_cons (mg_name 6 C.nd) (mgs_cons (mg_name 8 C.nd) (mgs_cons (mg_name 10 C.nd) (mgs_nil))))))))
  (mss_nil))
  (mss_cons (ms_set 11 C.nd (me_divP (me_var 9) (me_var 10)))
  (mss_one (ms_ret (me_tup (ma_cons (me_sub (me_var 3) (me_mul (me_var 11) (me_var 5))) (ma_cons (me_sub (me_var 4) (me_mul (me_var 11) (me_var 6))) (ma_cons (me_var 5) (ma_cons (me_var 6) (ma_cons (me_sub (me_var 7) (me_mul (me_var 11) (me_var 8))) (ma_cons (me_var 8) (ma_nil)))))))))))))) sem, hm, F.kp, bb⟩
/-! ### stands -/
abbrev s_stands : Stmt := topS 23
theorem sc_stands : FnScope ["land", "found", "k"] ["land"] (defScope s_stands) := ⟨rfl, rfl, rfl, by decide +kernel, rfl, by decide +kernel, by decide +kernel⟩
abbrev ms_stands : List Bool := [false]
def b_stands_1 (S_stand_at : Fsp) : DS :=
  sSeq (sApp 1 (dCall ms_stand_at S_stand_at (aCons (dIx (dVar 0) (dSub (dVar 2) (dC (.int 1)))) (aCons (dIx (dVar 0) (dVar 2)) (aCons (dIx (dVar 0) (dSub (dVar 2) (dC (.int 2)))) (aNil))))))
  (sApp 1 (dCall ms_stand_at S_stand_at (aCons (dIx (dVar 0) (dSub (dVar 2) (dC (.int 1)))) (aCons (dIx (dVar 0) (dSub (dVar 2) (dC (.int 2)))) (aCons (dIx (dVar 0) (dVar 2)) (aNil))))))
def t_stands_3 (S_stand_at : Fsp) : DS :=
  sRet (dSorted (dVar 1))
def t_stands_2 (S_stand_at : Fsp) : DS :=
  sSeq (sFor (iRng1 (dB kLen (aCons (dVar 0) (aNil)))) (gN 2) (b_stands_1 S_stand_at))
  (t_stands_3 S_stand_at)
def t_stands_1 (S_stand_at : Fsp) : DS :=
  sSeq (sAsg (dLst (aNil)) (gN 1))
  (t_stands_2 S_stand_at)
def d_stands (S_stand_at : Fsp) : DS :=
  sSeq (sIf (tVal (dLt (dB kLen (aCons (dVar 0) (aNil))) (dC (.int 3))))
  (sRaise "Flat")
  (sNil))
  (t_stands_1 S_stand_at)
theorem ok_stands {P : Program} {w : World} {K : PySem.W.Frag} {mg : MG} {base : Heap} {f : Addr} {fd : FuncData} {S_stand_at : Fsp} {S : Fsp} (F : Fun K "stands" "stands" s_stands f fd) (hm : mg "stands" = some (.ref f)) (bb : Binds K fd ["land"] []) (B : Bs mg) (EX : Es K mg) (F_stand_at : Cal P w K mg base 5 "stand_at" ["here", "near", "far"] ms_stand_at S_stand_at)
    (sem : ∀ ds κ ε, S ds κ ε → d_stands S_stand_at (endsOf κ ε) (entry ms_stands 3 ds)) : Cal P w K mg base 6 "stands" ["land"] ms_stands S :=
  ⟨f, fd, fn_dl (k := 5) F sc_stands rfl (fun cdv A outer s H E C => mss_cons (ms_if (mt_lt (me_len B.len_ (ma_cons (me_var 0) (ma_nil))) (me_int))
  (mss_one (ms_raise C.hc C.tk EX.r_Flat))
  (mss_nil))
  (mss_cons (ms_set 1 C.nd (me_lst (ma_nil)))
  (mss_cons (ms_for C (mi_rng1 B.range_ (me_len B.len_ (ma_cons (me_var 0) (ma_nil)))) (mg_name 2 C.nd)
  (mss_cons (ms_app 1 (me_callC C F_stand_at (ma_cons (me_ix (me_var 0) (me_sub (me_var 2) (me_int))) (ma_cons (me_ix (me_var 0) (me_var 2)) (ma_cons (me_ix (me_var 0) (me_sub (me_var 2) (me_int))) (ma_nil))))))
  (mss_one (ms_app 1 (me_callC C F_stand_at (ma_cons (me_ix (me_var 0) (me_sub (me_var 2) (me_int))) (ma_cons (me_ix (me_var 0) (me_sub (me_var 2) (me_int))) (ma_cons (me_ix (me_var 0) (me_var 2)) (ma_nil)))))))))
  (mss_one (ms_ret (me_sorted C B.sorted_ (me_var 1))))))) sem, hm, F.kp, bb⟩
/-! ### shapes_by_stands -/
abbrev s_shapes_by_stands : Stmt := topS 24
theorem sc_shapes_by_stands : FnScope ["land", "stand"] ["land"] (defScope s_shapes_by_stands) := ⟨rfl, rfl, rfl, by decide +kernel, rfl, by decide +kernel, by decide +kernel⟩
abbrev ms_shapes_by_stands : List Bool := [false]
def b_shapes_by_stands_1 (S_field_moved : Fsp) : DE :=
  dTup (aCons (dCall ms_field_moved S_field_moved (aCons (dVar 0) (aCons (dVar 1) (aNil)))) (aCons (dVar 1) (aNil)))
def d_shapes_by_stands (S_stands : Fsp) (S_field_moved : Fsp) : DS :=
  sRet (dLc (iLst true (dCall ms_stands S_stands (aCons (dVar 0) (aNil)))) (gN 1) tYesD (b_shapes_by_stands_1 S_field_moved) [1])
theorem ok_shapes_by_stands {P : Program} {w : World} {K : PySem.W.Frag} {mg : MG} {base : Heap} {f : Addr} {fd : FuncData} {S_stands : Fsp} {S_field_moved : Fsp} {S : Fsp} (F : Fun K "shapes_by_stands" "shapes_by_stands" s_shapes_by_stands f fd) (hm : mg "shapes_by_stands" = some (.ref f)) (bb : Binds K fd ["land"] []) (B : Bs mg) (EX : Es K mg) (F_stands : Cal P w K mg base 6 "stands" ["land"] ms_stands S_stands) (F_field_moved : Cal P w K mg base 5 "field_moved" ["land", "move"] ms_field_moved S_field_moved)
    (sem : ∀ ds κ ε, S ds κ ε → d_shapes_by_stands S_stands S_field_moved (endsOf κ ε) (entry ms_shapes_by_stands 2 ds)) : Cal P w K mg base 7 "shapes_by_stands" ["land"] ms_shapes_by_stands S :=
  ⟨f, fd, fn_dl (k := 6) F sc_shapes_by_stands rfl (fun cdv A outer s H E C => mss_one (ms_ret (me_lc (own := [("stand", 1)]) C (mi_list (me_callC C F_stands (ma_cons (me_var 0) (ma_nil)))) (blkOk_by (N := ["land", "stand"]) (sc := defScope s_shapes_by_stands) (by decide +kernel)) (fun _ => mg_name 1 (C).blk.nd) (fun _ => mts_nil) (fun _ => me_tup (ma_cons (me_callC (C).blk F_field_moved (ma_cons (me_var 0) (ma_cons (me_var 1) (ma_nil)))) (ma_cons (me_var 1) (ma_nil))))))) sem, hm, F.kp, bb⟩
/-! ### form_and_move -/
abbrev s_form_and_move : Stmt := topS 25
theorem sc_form_and_move : FnScope ["land", "move"] ["land"] (defScope s_form_and_move) := ⟨rfl, rfl, rfl, by decide +kernel, rfl, by decide +kernel, by decide +kernel⟩
abbrev ms_form_and_move : List Bool := [false]
def t_form_and_move_2 (S_field_moved : Fsp) (S_level : Fsp) (S_shapes_by_stands : Fsp) : DS :=
  sRet (dB (kMm minO) (aCons (dCall ms_shapes_by_stands S_shapes_by_stands (aCons (dVar 0) (aNil))) aNil))
def t_form_and_move_1 (S_field_moved : Fsp) (S_level : Fsp) (S_shapes_by_stands : Fsp) : DS :=
  sSeq (sIf (tVal (dEq (dB kLen (aCons (dVar 0) (aNil))) (dC (.int 2))))
  (sSeq (sAsg (dCall ms_level S_level (aCons (dIx (dVar 0) (dC (.int 0))) (aCons (dIx (dVar 0) (dC (.int 1))) (aNil)))) (gN 1))
  (sRet (dTup (aCons (dCall ms_field_moved S_field_moved (aCons (dVar 0) (aCons (dVar 1) (aNil)))) (aCons (dVar 1) (aNil))))))
  (sNil))
  (t_form_and_move_2 S_field_moved S_level S_shapes_by_stands)
def d_form_and_move (S_field_moved : Fsp) (S_level : Fsp) (S_shapes_by_stands : Fsp) : DS :=
  sSeq (sIf (tVal (dEq (dB kLen (aCons (dVar 0) (aNil))) (dC (.int 1))))
  (sSeq (sAsg (dTup (aCons (dC (.int 1)) (aCons (dC (.int 0)) (aCons (dC (.int 0)) (aCons (dC (.int 1)) (aCons (dNeg (dIx (dIx (dVar 0) (dC (.int 0))) (dC (.int 0)))) (aCons (dNeg (dIx (dIx (dVar 0) (dC (.int 0))) (dC (.int 1)))) (aNil)))))))) (gN 1))
  (sRet (dTup (aCons (dCall ms_field_moved S_field_moved (aCons (dVar 0) (aCons (dVar 1) (aNil)))) (aCons (dVar 1) (aNil))))))
  (sNil))
  (t_form_and_move_1 S_field_moved S_level S_shapes_by_stands)
theorem ok_form_and_move {P : Program} {w : World} {K : PySem.W.Frag} {mg : MG} {base : Heap} {f : Addr} {fd : FuncData} {S_field_moved : Fsp} {S_level : Fsp} {S_shapes_by_stands : Fsp} {S : Fsp} (F : Fun K "form_and_move" "form_and_move" s_form_and_move f fd) (hm : mg "form_and_move" = some (.ref f)) (bb : Binds K fd ["land"] []) (B : Bs mg) (EX : Es K mg) (F_field_moved : Cal P w K mg base 5 "field_moved" ["land", "move"] ms_field_moved S_field_moved) (F_level : Cal P w K mg base 3 "level" ["P", "Q"] ms_level S_level) (F_shapes_by_stands : Cal P w K mg base 7 "shapes_by_stands" ["land"] ms_shapes_by_stands S_shapes_by_stands)
    (sem : ∀ ds κ ε, S ds κ ε → d_form_and_move S_field_moved S_level S_shapes_by_stands (endsOf κ ε) (entry ms_form_and_move 2 ds)) : Cal P w K mg base 8 "form_and_move" ["land"] ms_form_and_move S :=
  ⟨f, fd, fn_dl (k := 7) F sc_form_and_move rfl (fun cdv A outer s H E C => mss_cons (ms_if (mt_eq C.hr.units (me_len B.len_ (ma_cons (me_var 0) (ma_nil))) (me_int))
  (mss_cons (ms_set 1 C.nd (me_tup (ma_cons (me_int) (ma_cons (me_int) (ma_cons (me_int) (ma_cons (me_int) (ma_cons (me_neg (me_ix (me_ix (me_var 0) (me_int)) (me_int))) (ma_cons (me_neg (me_ix (me_ix (me_var 0) (me_int)) (me_int))) (ma_nil)))))))))
  (mss_one (ms_ret (me_tup (ma_cons (me_callC C F_field_moved (ma_cons (me_var 0) (ma_cons (me_var 1) (ma_nil)))) (ma_cons (me_var 1) (ma_nil)))))))
  (mss_nil))
  (mss_cons (ms_if (mt_eq C.hr.units (me_len B.len_ (ma_cons (me_var 0) (ma_nil))) (me_int))
  (mss_cons (ms_set 1 C.nd (me_callC C F_level (ma_cons (me_ix (me_var 0) (me_int)) (ma_cons (me_ix (me_var 0) (me_int)) (ma_nil)))))
  (mss_one (ms_ret (me_tup (ma_cons (me_callC C F_field_moved (ma_cons (me_var 0) (ma_cons (me_var 1) (ma_nil)))) (ma_cons (me_var 1) (ma_nil)))))))
  (mss_nil))
  (mss_one (ms_ret (me_minD C B.min_ (me_callC C F_shapes_by_stands (ma_cons (me_var 0) (ma_nil)))))))) sem, hm, F.kp, bb⟩
/-! ### alike -/
abbrev s_alike : Stmt := topS 26
theorem sc_alike : FnScope ["one", "other", "first", "second"] ["one", "other"] (defScope s_alike) := ⟨rfl, rfl, rfl, by decide +kernel, rfl, by decide +kernel, by decide +kernel⟩
abbrev ms_alike : List Bool := [false, false]
def t_alike_3 (S_form_and_move : Fsp) (S_behind : Fsp) (S_way_back : Fsp) : DS :=
  sRet (dCall ms_behind S_behind (aCons (dIx (dVar 2) (dC (.int 1))) (aCons (dCall ms_way_back S_way_back (aCons (dIx (dVar 3) (dC (.int 1))) (aNil))) (aNil))))
def t_alike_2 (S_form_and_move : Fsp) (S_behind : Fsp) (S_way_back : Fsp) : DS :=
  sSeq (sIf (tVal (dNe (dIx (dVar 2) (dC (.int 0))) (dIx (dVar 3) (dC (.int 0)))))
  (sRet (dC .non))
  (sNil))
  (t_alike_3 S_form_and_move S_behind S_way_back)
def t_alike_1 (S_form_and_move : Fsp) (S_behind : Fsp) (S_way_back : Fsp) : DS :=
  sSeq (sAsg (dCall ms_form_and_move S_form_and_move (aCons (dVar 1) (aNil))) (gN 3))
  (t_alike_2 S_form_and_move S_behind S_way_back)
def d_alike (S_form_and_move : Fsp) (S_behind : Fsp) (S_way_back : Fsp) : DS :=
  sSeq (sAsg (dCall ms_form_and_move S_form_and_move (aCons (dVar 0) (aNil))) (gN 2))
  (t_alike_1 S_form_and_move S_behind S_way_back)
theorem ok_alike {P : Program} {w : World} {K : PySem.W.Frag} {mg : MG} {base : Heap} {f : Addr} {fd : FuncData} {S_form_and_move : Fsp} {S_behind : Fsp} {S_way_back : Fsp} {S : Fsp} (F : Fun K "alike" "alike" s_alike f fd) (hm : mg "alike" = some (.ref f)) (bb : Binds K fd ["one", "other"] []) (B : Bs mg) (EX : Es K mg) (F_form_and_move : Cal P w K mg base 8 "form_and_move" ["land"] ms_form_and_move S_form_and_move) (F_behind : Cal P w K mg base 5 "behind" ["first", "second"] ms_behind S_behind) (F_way_back : Cal P w K mg base 4 "way_back" ["move"] ms_way_back S_way_back)
    (sem : ∀ ds κ ε, S ds κ ε → d_alike S_form_and_move S_behind S_way_back (endsOf κ ε) (entry ms_alike 4 ds)) : Cal P w K mg base 9 "alike" ["one", "other"] ms_alike S :=
  ⟨f, fd, fn_dl (k := 8) F sc_alike rfl (fun cdv A outer s H E C => mss_cons (ms_set 2 C.nd (me_callC C F_form_and_move (ma_cons (me_var 0) (ma_nil))))
  (mss_cons (ms_set 3 C.nd (me_callC C F_form_and_move (ma_cons (me_var 1) (ma_nil))))
  (mss_cons (ms_if (mt_ne C.hr.units (me_ix (me_var 2) (me_int)) (me_ix (me_var 3) (me_int)))
  (mss_one (ms_ret (me_non)))
  (mss_nil))
  (mss_one (ms_ret (me_callC C F_behind (ma_cons (me_ix (me_var 2) (me_int)) (ma_cons (me_callC C F_way_back (ma_cons (me_ix (me_var 3) (me_int)) (ma_nil))) (ma_nil))))))))) sem, hm, F.kp, bb⟩
/-! ### _law_cell_at -/
abbrev s_L_cell_at : Stmt := topS 28
theorem sc_L_cell_at : FnScope ["script", "k"] ["script", "k"] (defScope s_L_cell_at) := ⟨rfl, rfl, rfl, by decide +kernel, rfl, by decide +kernel, by decide +kernel⟩
abbrev ms_L_cell_at : List Bool := [false, false]
def t_L_cell_at_1 : DS :=
  sRet (dC (.int 0))
def d_L_cell_at : DS :=
  sSeq (sIf (tVal (dLt (dVar 1) (dB kLen (aCons (dVar 0) (aNil)))))
  (sRet (dIx (dVar 0) (dVar 1)))
  (sNil))
  t_L_cell_at_1
theorem ok_L_cell_at {P : Program} {w : World} {K : PySem.W.Frag} {mg : MG} {base : Heap} {f : Addr} {fd : FuncData}  {S : Fsp} (F : Fun K "_law_cell_at" "_law_cell_at" s_L_cell_at f fd) (hm : mg "_law_cell_at" = some (.ref f)) (bb : Binds K fd ["script", "k"] []) (B : Bs mg) (EX : Es K mg) 
    (sem : ∀ ds κ ε, S ds κ ε → d_L_cell_at  (endsOf κ ε) (entry ms_L_cell_at 2 ds)) : Cal P w K mg base 1 "_law_cell_at" ["script", "k"] ms_L_cell_at S :=
  ⟨f, fd, fn_dl (k := 0) F sc_L_cell_at rfl (fun cdv A outer s H E C => mss_cons (ms_if (mt_lt (me_var 1) (me_len B.len_ (ma_cons (me_var 0) (ma_nil))))
  (mss_one (ms_ret (me_ix (me_var 0) (me_var 1))))
  (mss_nil))
  (mss_one (ms_ret (me_int)))) sem, hm, F.kp, bb⟩
/-! ### _law_whole -/
abbrev s_L_whole : Stmt := topS 29
theorem sc_L_whole : FnScope ["found"] ["found"] (defScope s_L_whole) := ⟨rfl, rfl, rfl, by decide +kernel, rfl, by decide +kernel, by decide +kernel⟩
abbrev ms_L_whole : List Bool := [false]
def d_L_whole : DS :=
  sRet (dAnd (dIsi .int (dVar 0)) (dNot (dIsi .bool (dVar 0))))
theorem ok_L_whole {P : Program} {w : World} {K : PySem.W.Frag} {mg : MG} {base : Heap} {f : Addr} {fd : FuncData}  {S : Fsp} (F : Fun K "_law_whole" "_law_whole" s_L_whole f fd) (hm : mg "_law_whole" = some (.ref f)) (bb : Binds K fd ["found"] []) (B : Bs mg) (EX : Es K mg) 
    (sem : ∀ ds κ ε, S ds κ ε → d_L_whole  (endsOf κ ε) (entry ms_L_whole 1 ds)) : Cal P w K mg base 1 "_law_whole" ["found"] ms_L_whole S :=
  ⟨f, fd, fn_dl (k := 0) F sc_L_whole rfl (fun cdv A outer s H E C => mss_one (ms_ret (me_and (me_isi .int (by decide +kernel) B.isinstance_ B.int_ (me_var 0)) (me_one (me_not (me_isi .bool (by decide +kernel) B.isinstance_ B.bool_ (me_var 0))))))) sem, hm, F.kp, bb⟩
/-! ### _law_cross -/
abbrev s_L_cross : Stmt := topS 30
theorem sc_L_cross : FnScope ["one", "two", "three", "made"] ["one", "two", "three"] (defScope s_L_cross) := ⟨rfl, rfl, rfl, by decide +kernel, rfl, by decide +kernel, by decide +kernel⟩
abbrev ms_L_cross : List Bool := [false, false, false]
def t_L_cross_1 : DS :=
  sRet (dSub (dVar 3) (dMul (dSub (dIx (dVar 1) (dC (.int 1))) (dIx (dVar 0) (dC (.int 1)))) (dSub (dIx (dVar 2) (dC (.int 0))) (dIx (dVar 0) (dC (.int 0))))))
def d_L_cross : DS :=
  sSeq (sAsg (dMul (dSub (dIx (dVar 1) (dC (.int 0))) (dIx (dVar 0) (dC (.int 0)))) (dSub (dIx (dVar 2) (dC (.int 1))) (dIx (dVar 0) (dC (.int 1))))) (gN 3))
  t_L_cross_1
theorem ok_L_cross {P : Program} {w : World} {K : PySem.W.Frag} {mg : MG} {base : Heap} {f : Addr} {fd : FuncData}  {S : Fsp} (F : Fun K "_law_cross" "_law_cross" s_L_cross f fd) (hm : mg "_law_cross" = some (.ref f)) (bb : Binds K fd ["one", "two", "three"] []) (B : Bs mg) (EX : Es K mg) 
    (sem : ∀ ds κ ε, S ds κ ε → d_L_cross  (endsOf κ ε) (entry ms_L_cross 4 ds)) : Cal P w K mg base 1 "_law_cross" ["one", "two", "three"] ms_L_cross S :=
  ⟨f, fd, fn_dl (k := 0) F sc_L_cross rfl (fun cdv A outer s H E C => mss_cons (ms_set 3 C.nd (me_mul (me_sub (me_ix (me_var 1) (me_int)) (me_ix (me_var 0) (me_int))) (me_sub (me_ix (me_var 2) (me_int)) (me_ix (me_var 0) (me_int)))))
  (mss_one (ms_ret (me_sub (me_var 3) (me_mul (me_sub (me_ix (me_var 1) (me_int)) (me_ix (me_var 0) (me_int))) (me_sub (me_ix (me_var 2) (me_int)) (me_ix (me_var 0) (me_int)))))))) sem, hm, F.kp, bb⟩
/-! ### _law_corners -/
abbrev s_L_corners : Stmt := topS 31
theorem sc_L_corners : FnScope ["points", "row", "found", "way", "half", "spot"] ["points"] (defScope s_L_corners) := ⟨rfl, rfl, rfl, by decide +kernel, rfl, by decide +kernel, by decide +kernel⟩
abbrev ms_L_corners : List Bool := [false]
def b_L_corners_1 (S_L_cross : Fsp) : DT :=
  tAndD (tVal (dGt (dB kLen (aCons (dVar 4) (aNil))) (dC (.int 1)))) (tVal (dLe (dCall ms_L_cross S_L_cross (aCons (dIx (dVar 4) (dNeg (dC (.int 2)))) (aCons (dIx (dVar 4) (dNeg (dC (.int 1)))) (aCons (dVar 5) (aNil))))) (dC (.int 0))))
def b_L_corners_2 : DS :=
  sPop 4 gDrop
def b_L_corners_3 (S_L_cross : Fsp) : DS :=
  sSeq (sWhile (b_L_corners_1 S_L_cross) b_L_corners_2)
  (sApp 4 (dVar 5))
def b_L_corners_4 (S_L_cross : Fsp) : DS :=
  sSeq (sAsg (dLst (aNil)) (gN 4))
  (sSeq (sFrz 3 (sFor (iLst false (dVar 3)) (gN 5) (b_L_corners_3 S_L_cross)))
  (sAsg (dCat (dVar 2) (dCut (dVar 4) (oNone) (oSome (dNeg (dC (.int 1)))))) (gN 2)))
def t_L_corners_3 (S_L_cross : Fsp) : DS :=
  sRetV 2
def t_L_corners_2 (S_L_cross : Fsp) : DS :=
  sSeq (sFrz 1 (sFor (iLst false (dLst (aCons (dVar 1) (aCons (dRev (dVar 1)) (aNil))))) (gN 3) (b_L_corners_4 S_L_cross)))
  (t_L_corners_3 S_L_cross)
def t_L_corners_1 (S_L_cross : Fsp) : DS :=
  sSeq (sAsg (dLst (aNil)) (gN 2))
  (t_L_corners_2 S_L_cross)
def d_L_corners (S_L_cross : Fsp) : DS :=
  sSeq (sAsg (dSortedSet (dVar 0)) (gN 1))
  (t_L_corners_1 S_L_cross)
theorem ok_L_corners {P : Program} {w : World} {K : PySem.W.Frag} {mg : MG} {base : Heap} {f : Addr} {fd : FuncData} {S_L_cross : Fsp} {S : Fsp} (F : Fun K "_law_corners" "_law_corners" s_L_corners f fd) (hm : mg "_law_corners" = some (.ref f)) (bb : Binds K fd ["points"] []) (B : Bs mg) (EX : Es K mg) (F_L_cross : Cal P w K mg base 1 "_law_cross" ["one", "two", "three"] ms_L_cross S_L_cross)
    (sem : ∀ ds κ ε, S ds κ ε → d_L_corners S_L_cross (endsOf κ ε) (entry ms_L_corners 6 ds)) : Cal P w K mg base 2 "_law_corners" ["points"] ms_L_corners S :=
  ⟨f, fd, fn_dl (k := 1) F sc_L_corners rfl (fun cdv A outer s H E C => mss_cons (ms_set 1 C.nd (me_sortedSet C B.sorted_ B.set_ (me_var 0)))
  (mss_cons (ms_set 2 C.nd (me_lst (ma_nil)))
  (mss_cons (ms_frz 1 (ms_for C (mi_list (me_lst (ma_cons (me_var 1) (ma_cons (me_listRev C B.list_ B.reversed_ (me_var 1)) (ma_nil))))) (mg_name 3 C.nd)
  (mss_cons (ms_set 4 C.nd (me_lst (ma_nil)))
  (mss_cons (ms_frz 3 (ms_for C (mi_list (me_var 3)) (mg_name 5 C.nd)
  (mss_cons (ms_while C ((mw_and (mt_gt (me_len B.len_ (ma_cons (me_var 4) (ma_nil))) (me_int)) (mw_and1 (mt_le (me_callC C F_L_cross (ma_cons (me_ix (me_var 4) (me_neg (me_int))) (ma_cons (me_ix (me_var 4) (me_neg (me_int))) (ma_cons (me_var 5) (ma_nil))))) (me_int)))).mt)
  (mss_one (ms_popD 4)))
  (mss_one (ms_app 4 (me_var 5))))))
  (mss_one (ms_set 2 C.nd (me_cat (me_var 2) (me_cut (me_var 4) (mo_none) (mo_some (me_neg (me_int)))))))))))
  (mss_one (ms_retV 2))))) sem, hm, F.kp, bb⟩
/-! ### _law_window -/
abbrev s_L_window : Stmt := topS 32
theorem sc_L_window : FnScope ["script", "start", "shape", "wide", "high", "some", "cell"] ["script", "start"] (defScope s_L_window) := ⟨rfl, rfl, rfl, by decide +kernel, rfl, by decide +kernel, by decide +kernel⟩
abbrev ms_L_window : List Bool := [false, false]
def b_L_window_1 : DS :=
  sApp 5 (dTup (aCons (dModP (dVar 6) (dVar 3)) (aCons (dModP (dDivP (dVar 6) (dVar 3)) (dVar 4)) (aNil))))
def t_L_window_5 (S_L_cell_at : Fsp) : DS :=
  sRetV 5
def t_L_window_4 (S_L_cell_at : Fsp) : DS :=
  sSeq (sFor (iLst false (dCutS (dVar 0) (oSome (dVar 1)) (oSome (dC (.int 60))) (oSome (dC (.int 2))))) (gN 6) b_L_window_1)
  (t_L_window_5 S_L_cell_at)
def t_L_window_3 (S_L_cell_at : Fsp) : DS :=
  sSeq (sAsg (dLst (aCons (dTup (aCons (dC (.int 0)) (aCons (dC (.int 0)) (aNil)))) (aCons (dTup (aCons (dC (.int 1)) (aCons (dC (.int 0)) (aNil)))) (aCons (dTup (aCons (dC (.int 0)) (aCons (dC (.int 1)) (aNil)))) (aNil))))) (gN 5))
  (t_L_window_4 S_L_cell_at)
def t_L_window_2 (S_L_cell_at : Fsp) : DS :=
  sSeq (sAsg (dAdd (dC (.int 2)) (dModP (dDivP (dVar 2) (dC (.int 4))) (dC (.int 3)))) (gN 4))
  (t_L_window_3 S_L_cell_at)
def t_L_window_1 (S_L_cell_at : Fsp) : DS :=
  sSeq (sAsg (dAdd (dC (.int 2)) (dModP (dVar 2) (dC (.int 4)))) (gN 3))
  (t_L_window_2 S_L_cell_at)
def d_L_window (S_L_cell_at : Fsp) : DS :=
  sSeq (sAsg (dDivP (dCall ms_L_cell_at S_L_cell_at (aCons (dVar 0) (aCons (dC (.int 0)) (aNil)))) (dC (.int 4))) (gN 2))
  (t_L_window_1 S_L_cell_at)
theorem ok_L_window {P : Program} {w : World} {K : PySem.W.Frag} {mg : MG} {base : Heap} {f : Addr} {fd : FuncData} {S_L_cell_at : Fsp} {S : Fsp} (F : Fun K "_law_window" "_law_window" s_L_window f fd) (hm : mg "_law_window" = some (.ref f)) (bb : Binds K fd ["script", "start"] []) (B : Bs mg) (EX : Es K mg) (F_L_cell_at : Cal P w K mg base 1 "_law_cell_at" ["script", "k"] ms_L_cell_at S_L_cell_at)
    (sem : ∀ ds κ ε, S ds κ ε → d_L_window S_L_cell_at (endsOf κ ε) (entry ms_L_window 7 ds)) : Cal P w K mg base 2 "_law_window" ["script", "start"] ms_L_window S :=
  ⟨f, fd, fn_dl (k := 1) F sc_L_window rfl (fun cdv A outer s H E C => mss_cons (ms_set 2 C.nd (me_divP (me_callC C F_L_cell_at (ma_cons (me_var 0) (ma_cons (me_int) (ma_nil)))) (me_int)))
  (mss_cons (ms_set 3 C.nd (me_add (me_int) (me_modP (me_var 2) (me_int))))
  (mss_cons (ms_set 4 C.nd (me_add (me_int) (me_modP (me_divP (me_var 2) (me_int)) (me_int))))
  (mss_cons (ms_set 5 C.nd (me_lst (ma_cons (me_tup (ma_cons (me_int) (ma_cons (me_int) (ma_nil)))) (ma_cons (me_tup (ma_cons (me_int) (ma_cons (me_int) (ma_nil)))) (ma_cons (me_tup (ma_cons (me_int) (ma_cons (me_int) (ma_nil)))) (ma_nil))))))
  (mss_cons (ms_for C (mi_list (me_cutS (me_var 0) (mo_some (me_var 1)) (mo_some (me_int)) (mo_some (me_int)))) (mg_name 6 C.nd)
  (mss_one (ms_app 5 (me_tup (ma_cons (me_modP (me_var 6) (me_var 3)) (ma_cons (me_modP (me_divP (me_var 6) (me_var 3)) (me_var 4)) (ma_nil)))))))
  (mss_one (ms_retV 5))))))) sem, hm, F.kp, bb⟩
/-! ### _law_turned_number -/
abbrev s_L_turned_number : Stmt := topS 33
theorem sc_L_turned_number : FnScope ["a", "n", "high", "low", "s", "after", "times"] ["a", "n"] (defScope s_L_turned_number) := ⟨rfl, rfl, rfl, by decide +kernel, rfl, by decide +kernel, by decide +kernel⟩
abbrev ms_L_turned_number : List Bool := [false, false]
def b_L_turned_number_1 : DT :=
  tVal (dGt (dVar 3) (dC (.int 0)))
def b_L_turned_number_2 : DS :=
  sSeq (sAsg (dDivP (dVar 2) (dVar 3)) (gN 6))
  (sSeq (sPar 2 3 (aCons (dVar 3) (aCons (dSub (dVar 2) (dMul (dVar 6) (dVar 3))) (aNil))))
  (sPar 4 5 (aCons (dVar 5) (aCons (dSub (dVar 4) (dMul (dVar 6) (dVar 5))) (aNil)))))
def t_L_turned_number_5 : DS :=
  sRet (dModP (dVar 4) (dVar 1))
def t_L_turned_number_4 : DS :=
  sSeq (sWhile b_L_turned_number_1 b_L_turned_number_2)
  t_L_turned_number_5
def t_L_turned_number_3 : DS :=
  sSeq (sAsg (dC (.int 1)) (gN 5))
  t_L_turned_number_4
def t_L_turned_number_2 : DS :=
  sSeq (sAsg (dC (.int 0)) (gN 4))
  t_L_turned_number_3
def t_L_turned_number_1 : DS :=
  sSeq (sAsg (dModP (dVar 0) (dVar 1)) (gN 3))
  t_L_turned_number_2
def d_L_turned_number : DS :=
  sSeq (sAsg (dVar 1) (gN 2))
  t_L_turned_number_1
theorem ok_L_turned_number {P : Program} {w : World} {K : PySem.W.Frag} {mg : MG} {base : Heap} {f : Addr} {fd : FuncData}  {S : Fsp} (F : Fun K "_law_turned_number" "_law_turned_number" s_L_turned_number f fd) (hm : mg "_law_turned_number" = some (.ref f)) (bb : Binds K fd ["a", "n"] []) (B : Bs mg) (EX : Es K mg) 
    (sem : ∀ ds κ ε, S ds κ ε → d_L_turned_number  (endsOf κ ε) (entry ms_L_turned_number 7 ds)) : Cal P w K mg base 1 "_law_turned_number" ["a", "n"] ms_L_turned_number S :=
  ⟨f, fd, fn_dl (k := 0) F sc_L_turned_number rfl (fun cdv A outer s H E C => mss_cons (ms_set 2 C.nd (me_var 1))
  (mss_cons (ms_set 3 C.nd (me_modP (me_var 0) (me_var 1)))
  (mss_cons (ms_set 4 C.nd (me_int))
  (mss_cons (ms_set 5 C.nd (me_int))
  (mss_cons (ms_while C (mt_gt (me_var 3) (me_int))
  (mss_cons (ms_set 6 C.nd (me_divP (me_var 2) (me_var 3)))
  (mss_cons (ms_par 2 3 C.hc C.nd (ma_cons (me_var 3) (ma_cons (me_sub (me_var 2) (me_mul (me_var 6) (me_var 3))) (ma_nil))))
  (mss_one (ms_par 4 5 C.hc C.nd (ma_cons (me_var 5) (ma_cons (me_sub (me_var 4) (me_mul (me_var 6) (me_var 5))) (ma_nil))))))))
  (mss_one (ms_ret (me_modP (me_var 4) (me_var 1))))))))) sem, hm, F.kp, bb⟩
/-! ### _law_slim -/
abbrev s_L_slim : Stmt := topS 34
theorem sc_L_slim : FnScope ["script", "n", "a", "way", "b"] ["script"] (defScope s_L_slim) := ⟨rfl, rfl, rfl, by decide +kernel, rfl, by decide +kernel, by decide +kernel⟩
abbrev ms_L_slim : List Bool := [false]
def t_L_slim_5 (S_L_cell_at : Fsp) (S_L_turned_number : Fsp) : DS :=
  sRet (dTup (aCons (dLst (aCons (dTup (aCons (dC (.int 0)) (aCons (dC (.int 0)) (aNil)))) (aCons (dTup (aCons (dC (.int 1)) (aCons (dC (.int 0)) (aNil)))) (aCons (dTup (aCons (dVar 2) (aCons (dVar 1) (aNil)))) (aNil))))) (aCons (dLst (aCons (dTup (aCons (dC (.int 0)) (aCons (dC (.int 0)) (aNil)))) (aCons (dTup (aCons (dC (.int 1)) (aCons (dC (.int 0)) (aNil)))) (aCons (dTup (aCons (dVar 4) (aCons (dVar 1) (aNil)))) (aNil))))) (aNil))))
def t_L_slim_4 (S_L_cell_at : Fsp) (S_L_turned_number : Fsp) : DS :=
  sSeq (sAsg (dIx (dLst (aCons (dModP (dCall ms_L_cell_at S_L_cell_at (aCons (dVar 0) (aCons (dC (.int 5)) (aNil)))) (dVar 1)) (aCons (dSub (dC (.int 1)) (dVar 2)) (aCons (dSub (dC (.int 0)) (dVar 2)) (aCons (dCall ms_L_turned_number S_L_turned_number (aCons (dVar 2) (aCons (dVar 1) (aNil)))) (aCons (dSub (dC (.int 1)) (dCall ms_L_turned_number S_L_turned_number (aCons (dVar 2) (aCons (dVar 1) (aNil))))) (aNil))))))) (dVar 3)) (gN 4))
  (t_L_slim_5 S_L_cell_at S_L_turned_number)
def t_L_slim_3 (S_L_cell_at : Fsp) (S_L_turned_number : Fsp) : DS :=
  sSeq (sAsg (dModP (dDivP (dCall ms_L_cell_at S_L_cell_at (aCons (dVar 0) (aCons (dC (.int 0)) (aNil)))) (dC (.int 8))) (dC (.int 5))) (gN 3))
  (t_L_slim_4 S_L_cell_at S_L_turned_number)
def t_L_slim_2 (S_L_cell_at : Fsp) (S_L_turned_number : Fsp) : DS :=
  sSeq (sAsg (dModP (dCall ms_L_cell_at S_L_cell_at (aCons (dVar 0) (aCons (dC (.int 4)) (aNil)))) (dVar 1)) (gN 2))
  (t_L_slim_3 S_L_cell_at S_L_turned_number)
def t_L_slim_1 (S_L_cell_at : Fsp) (S_L_turned_number : Fsp) : DS :=
  sSeq (sIf (tVal (dEq (dModP (dDivP (dCall ms_L_cell_at S_L_cell_at (aCons (dVar 0) (aCons (dC (.int 0)) (aNil)))) (dC (.int 4))) (dC (.int 2))) (dC (.int 1))))
  (sAsg (dAdd (dC (.int 2)) (dModP (dCall ms_L_cell_at S_L_cell_at (aCons (dVar 0) (aCons (dC (.int 3)) (aNil)))) (dC (.int 30)))) (gN 1))
  (sNil))
  (t_L_slim_2 S_L_cell_at S_L_turned_number)
def d_L_slim (S_L_cell_at : Fsp) (S_L_turned_number : Fsp) : DS :=
  sSeq (sAsg (dAdd (dC (.int 2)) (dModP (dCall ms_L_cell_at S_L_cell_at (aCons (dVar 0) (aCons (dC (.int 3)) (aNil)))) (dPow (dC (.int 10)) (dC (.int 20))))) (gN 1))
  (t_L_slim_1 S_L_cell_at S_L_turned_number)
theorem ok_L_slim {P : Program} {w : World} {K : PySem.W.Frag} {mg : MG} {base : Heap} {f : Addr} {fd : FuncData} {S_L_cell_at : Fsp} {S_L_turned_number : Fsp} {S : Fsp} (F : Fun K "_law_slim" "_law_slim" s_L_slim f fd) (hm : mg "_law_slim" = some (.ref f)) (bb : Binds K fd ["script"] []) (B : Bs mg) (EX : Es K mg) (F_L_cell_at : Cal P w K mg base 1 "_law_cell_at" ["script", "k"] ms_L_cell_at S_L_cell_at) (F_L_turned_number : Cal P w K mg base 1 "_law_turned_number" ["a", "n"] ms_L_turned_number S_L_turned_number)
    (sem : ∀ ds κ ε, S ds κ ε → d_L_slim S_L_cell_at S_L_turned_number (endsOf κ ε) (entry ms_L_slim 5 ds)) : Cal P w K mg base 2 "_law_slim" ["script"] ms_L_slim S :=
  ⟨f, fd, fn_dl (k := 1) F sc_L_slim rfl (fun cdv A outer s H E C => mss_cons (ms_set 1 C.nd (me_add (me_int) (me_modP (me_callC C F_L_cell_at (ma_cons (me_var 0) (ma_cons (me_int) (ma_nil)))) (me_pow (me_int) (me_int)))))
  (mss_cons (ms_if (mt_eq C.hr.units (me_modP (me_divP (me_callC C F_L_cell_at (ma_cons (me_var 0) (ma_cons (me_int) (ma_nil)))) (me_int)) (me_int)) (me_int))
  (mss_one (ms_set 1 C.nd (me_add (me_int) (me_modP (me_callC C F_L_cell_at (ma_cons (me_var 0) (ma_cons (me_int) (ma_nil)))) (me_int)))))
  (mss_nil))
  (mss_cons (ms_set 2 C.nd (me_modP (me_callC C F_L_cell_at (ma_cons (me_var 0) (ma_cons (me_int) (ma_nil)))) (me_var 1)))
  (mss_cons (ms_set 3 C.nd (me_modP (me_divP (me_callC C F_L_cell_at (ma_cons (me_var 0) (ma_cons (me_int) (ma_nil)))) (me_int)) (me_int)))
  (mss_cons (ms_set 4 C.nd (me_ix (me_lst (ma_cons (me_modP (me_callC C F_L_cell_at (ma_cons (me_var 0) (ma_cons (me_int) (ma_nil)))) (me_var 1)) (ma_cons (me_sub (me_int) (me_var 2)) (ma_cons (me_sub (me_int) (me_var 2)) (ma_cons (me_callC C F_L_turned_number (ma_cons (me_var 2) (ma_cons (me_var 1) (ma_nil)))) (ma_cons (me_sub (me_int) (me_callC C F_L_turned_number (ma_cons (me_var 2) (ma_cons (me_var 1) (ma_nil))))) (ma_nil))))))) (me_var 3)))
  (mss_one (ms_ret (me_tup (ma_cons (me_lst (ma_cons (me_tup (ma_cons (me_int) (ma_cons (me_int) (ma_nil)))) (ma_cons (me_tup (ma_cons (me_int) (ma_cons (me_int) (ma_nil)))) (ma_cons (me_tup (ma_cons (me_var 2) (ma_cons (me_var 1) (ma_nil)))) (ma_nil))))) (ma_cons (me_lst (ma_cons (me_tup (ma_cons (me_int) (ma_cons (me_int) (ma_nil)))) (ma_cons (me_tup (ma_cons (me_int) (ma_cons (me_int) (ma_nil)))) (ma_cons (me_tup (ma_cons (me_var 4) (ma_cons (me_var 1) (ma_nil)))) (ma_nil))))) (ma_nil))))))))))) sem, hm, F.kp, bb⟩
/-! ### _law_two -/
abbrev s_L_two : Stmt := topS 35
theorem sc_L_two : FnScope ["script", "kind", "some", "x", "y", "spot"] ["script"] (defScope s_L_two) := ⟨rfl, rfl, rfl, by decide +kernel, rfl, by decide +kernel, by decide +kernel⟩
abbrev ms_L_two : List Bool := [false]
def b_L_two_1 : DE :=
  dTup (aCons (dSub (dC (.int 3)) (dIx (dVar 5) (dC (.int 1)))) (aCons (dIx (dVar 5) (dC (.int 0))) (aNil)))
def t_L_two_5 (S_L_cell_at : Fsp) (S_L_slim : Fsp) (S_L_window : Fsp) : DS :=
  sFrz 2 (sRet (dTup (aCons (dVar 2) (aCons (dCall ms_L_window S_L_window (aCons (dVar 0) (aCons (dC (.int 4)) (aNil)))) (aNil)))))
def t_L_two_4 (S_L_cell_at : Fsp) (S_L_slim : Fsp) (S_L_window : Fsp) : DS :=
  sSeq (sIf (tVal (dEq (dVar 1) (dC (.int 3))))
  (sFrz 2 (sRet (dTup (aCons (dVar 2) (aCons (dLc (iLst true (dVar 2)) (gN 5) tYesD b_L_two_1 [5]) (aNil))))))
  (sNil))
  (t_L_two_5 S_L_cell_at S_L_slim S_L_window)
def t_L_two_3 (S_L_cell_at : Fsp) (S_L_slim : Fsp) (S_L_window : Fsp) : DS :=
  sSeq (sIf (tVal (dEq (dVar 1) (dC (.int 2))))
  (sSeq (sAsg (dAdd (dC (.int 2)) (dModP (dCall ms_L_cell_at S_L_cell_at (aCons (dVar 0) (aCons (dC (.int 3)) (aNil)))) (dC (.int 9)))) (gN 3))
  (sSeq (sAsg (dAdd (dC (.int 2)) (dModP (dCall ms_L_cell_at S_L_cell_at (aCons (dVar 0) (aCons (dC (.int 4)) (aNil)))) (dC (.int 9)))) (gN 4))
  (sSeq (sAsg (dLst (aCons (dTup (aCons (dC (.int 0)) (aCons (dC (.int 0)) (aNil)))) (aCons (dTup (aCons (dVar 3) (aCons (dC (.int 0)) (aNil)))) (aCons (dTup (aCons (dC (.int 0)) (aCons (dVar 4) (aNil)))) (aCons (dTup (aCons (dAdd (dVar 3) (dModP (dCall ms_L_cell_at S_L_cell_at (aCons (dVar 0) (aCons (dC (.int 5)) (aNil)))) (dC (.int 4)))) (aCons (dVar 4) (aNil)))) (aNil)))))) (gN 2))
  (sFrz 2 (sRet (dTup (aCons (dVar 2) (aCons (dLst (aCons (dTup (aCons (dC (.int 0)) (aCons (dC (.int 0)) (aNil)))) (aCons (dTup (aCons (dVar 3) (aCons (dC (.int 0)) (aNil)))) (aCons (dTup (aCons (dC (.int 0)) (aCons (dVar 4) (aNil)))) (aCons (dTup (aCons (dVar 3) (aCons (dAdd (dVar 4) (dModP (dCall ms_L_cell_at S_L_cell_at (aCons (dVar 0) (aCons (dC (.int 6)) (aNil)))) (dC (.int 4)))) (aNil)))) (aNil)))))) (aNil)))))))))
  (sNil))
  (t_L_two_4 S_L_cell_at S_L_slim S_L_window)
def t_L_two_2 (S_L_cell_at : Fsp) (S_L_slim : Fsp) (S_L_window : Fsp) : DS :=
  sSeq (sAsg (dCall ms_L_window S_L_window (aCons (dVar 0) (aCons (dC (.int 3)) (aNil)))) (gN 2))
  (t_L_two_3 S_L_cell_at S_L_slim S_L_window)
def t_L_two_1 (S_L_cell_at : Fsp) (S_L_slim : Fsp) (S_L_window : Fsp) : DS :=
  sSeq (sIf (tVal (dEq (dVar 1) (dC (.int 1))))
  (sRet (dCall ms_L_slim S_L_slim (aCons (dVar 0) (aNil))))
  (sNil))
  (t_L_two_2 S_L_cell_at S_L_slim S_L_window)
def d_L_two (S_L_cell_at : Fsp) (S_L_slim : Fsp) (S_L_window : Fsp) : DS :=
  sSeq (sAsg (dModP (dCall ms_L_cell_at S_L_cell_at (aCons (dVar 0) (aCons (dC (.int 0)) (aNil)))) (dC (.int 4))) (gN 1))
  (t_L_two_1 S_L_cell_at S_L_slim S_L_window)
theorem ok_L_two {P : Program} {w : World} {K : PySem.W.Frag} {mg : MG} {base : Heap} {f : Addr} {fd : FuncData} {S_L_cell_at : Fsp} {S_L_slim : Fsp} {S_L_window : Fsp} {S : Fsp} (F : Fun K "_law_two" "_law_two" s_L_two f fd) (hm : mg "_law_two" = some (.ref f)) (bb : Binds K fd ["script"] []) (B : Bs mg) (EX : Es K mg) (F_L_cell_at : Cal P w K mg base 1 "_law_cell_at" ["script", "k"] ms_L_cell_at S_L_cell_at) (F_L_slim : Cal P w K mg base 2 "_law_slim" ["script"] ms_L_slim S_L_slim) (F_L_window : Cal P w K mg base 2 "_law_window" ["script", "start"] ms_L_window S_L_window)
    (sem : ∀ ds κ ε, S ds κ ε → d_L_two S_L_cell_at S_L_slim S_L_window (endsOf κ ε) (entry ms_L_two 6 ds)) : Cal P w K mg base 3 "_law_two" ["script"] ms_L_two S :=
  ⟨f, fd, fn_dl (k := 2) F sc_L_two rfl (fun cdv A outer s H E C => mss_cons (ms_set 1 C.nd (me_modP (me_callC C F_L_cell_at (ma_cons (me_var 0) (ma_cons (me_int) (ma_nil)))) (me_int)))
  (mss_cons (ms_if (mt_eq C.hr.units (me_var 1) (me_int))
  (mss_one (ms_ret (me_callC C F_L_slim (ma_cons (me_var 0) (ma_nil)))))
  (mss_nil))
  (mss_cons (ms_set 2 C.nd (me_callC C F_L_window (ma_cons (me_var 0) (ma_cons (me_int) (ma_nil)))))
  (mss_cons (ms_if (mt_eq C.hr.units (me_var 1) (me_int))
  (mss_cons (ms_set 3 C.nd (me_add (me_int) (me_modP (me_callC C F_L_cell_at (ma_cons (me_var 0) (ma_cons (me_int) (ma_nil)))) (me_int))))
  (mss_cons (ms_set 4 C.nd (me_add (me_int) (me_modP (me_callC C F_L_cell_at (ma_cons (me_var 0) (ma_cons (me_int) (ma_nil)))) (me_int))))
  (mss_cons (ms_set 2 C.nd (me_lst (ma_cons (me_tup (ma_cons (me_int) (ma_cons (me_int) (ma_nil)))) (ma_cons (me_tup (ma_cons (me_var 3) (ma_cons (me_int) (ma_nil)))) (ma_cons (me_tup (ma_cons (me_int) (ma_cons (me_var 4) (ma_nil)))) (ma_cons (me_tup (ma_cons (me_add (me_var 3) (me_modP (me_callC C F_L_cell_at (ma_cons (me_var 0) (ma_cons (me_int) (ma_nil)))) (me_int))) (ma_cons (me_var 4) (ma_nil)))) (ma_nil)))))))
  (mss_one (ms_frz 2 (ms_ret (me_tup (ma_cons (me_var 2) (ma_cons (me_lst (ma_cons (me_tup (ma_cons (me_int) (ma_cons (me_int) (ma_nil)))) (ma_cons (me_tup (ma_cons (me_var 3) (ma_cons (me_int) (ma_nil)))) (ma_cons (me_tup (ma_cons (me_int) (ma_cons (me_var 4) (ma_nil)))) (ma_cons (me_tup (ma_cons (me_var 3) (ma_cons (me_add (me_var 4) (me_modP (me_callC C F_L_cell_at (ma_cons (me_var 0) (ma_cons (me_int) (ma_nil)))) (me_int))) (ma_nil)))) (ma_nil)))))) (ma_nil))))))))))
  (mss_nil))
  (mss_cons (ms_if (mt_eq C.hr.units (me_var 1) (me_int))
  (mss_one (ms_frz 2 (ms_ret (me_tup (ma_cons (me_var 2) (ma_cons (me_lc (own := [("spot", 5)]) C (mi_list (me_var 2)) (blkOk_by (N := ["script", "kind", "some", "x", "y", "spot"]) (sc := defScope s_L_two) (by decide +kernel)) (fun _ => mg_name 5 (C).blk.nd) (fun _ => mts_nil) (fun _ => me_tup (ma_cons (me_sub (me_int) (me_ix (me_var 5) (me_int))) (ma_cons (me_ix (me_var 5) (me_int)) (ma_nil))))) (ma_nil)))))))
  (mss_nil))
  (mss_one (ms_frz 2 (ms_ret (me_tup (ma_cons (me_var 2) (ma_cons (me_callC C F_L_window (ma_cons (me_var 0) (ma_cons (me_int) (ma_nil)))) (ma_nil)))))))))))) sem, hm, F.kp, bb⟩
/-! ### _law_lean -/
abbrev s_L_lean : Stmt := topS 36
theorem sc_L_lean : FnScope ["spot", "script", "x", "y"] ["spot", "script"] (defScope s_L_lean) := ⟨rfl, rfl, rfl, by decide +kernel, rfl, by decide +kernel, by decide +kernel⟩
abbrev ms_L_lean : List Bool := [false, false]
def t_L_lean_3 (S_L_cell_at : Fsp) : DS :=
  sRet (dTup (aCons (dVar 2) (aCons (dVar 3) (aNil))))
def t_L_lean_2 (S_L_cell_at : Fsp) : DS :=
  sSeq (sAsg (dAdd (dVar 2) (dMul (dSub (dModP (dCall ms_L_cell_at S_L_cell_at (aCons (dVar 1) (aCons (dC (.int 2)) (aNil)))) (dAdd (dMul (dC (.int 2)) (dPow (dC (.int 10)) (dC (.int 20)))) (dC (.int 1)))) (dPow (dC (.int 10)) (dC (.int 20)))) (dVar 3))) (gN 2))
  (t_L_lean_3 S_L_cell_at)
def t_L_lean_1 (S_L_cell_at : Fsp) : DS :=
  sSeq (sAsg (dAdd (dVar 3) (dMul (dSub (dModP (dCall ms_L_cell_at S_L_cell_at (aCons (dVar 1) (aCons (dC (.int 1)) (aNil)))) (dAdd (dMul (dC (.int 2)) (dPow (dC (.int 10)) (dC (.int 20)))) (dC (.int 1)))) (dPow (dC (.int 10)) (dC (.int 20)))) (dVar 2))) (gN 3))
  (t_L_lean_2 S_L_cell_at)
def d_L_lean (S_L_cell_at : Fsp) : DS :=
  sSeq (sAsg (dVar 0) (gT 2 (gsCons (gN 2) (gsCons (gN 3) (gsNil)))))
  (t_L_lean_1 S_L_cell_at)
theorem ok_L_lean {P : Program} {w : World} {K : PySem.W.Frag} {mg : MG} {base : Heap} {f : Addr} {fd : FuncData} {S_L_cell_at : Fsp} {S : Fsp} (F : Fun K "_law_lean" "_law_lean" s_L_lean f fd) (hm : mg "_law_lean" = some (.ref f)) (bb : Binds K fd ["spot", "script"] []) (B : Bs mg) (EX : Es K mg) (F_L_cell_at : Cal P w K mg base 1 "_law_cell_at" ["script", "k"] ms_L_cell_at S_L_cell_at)
    (sem : ∀ ds κ ε, S ds κ ε → d_L_lean S_L_cell_at (endsOf κ ε) (entry ms_L_lean 4 ds)) : Cal P w K mg base 2 "_law_lean" ["spot", "script"] ms_L_lean S :=
  ⟨f, fd, fn_dl (k := 1) F sc_L_lean rfl (fun cdv A outer s H E C => mss_cons (ms_asg (me_var 0) (mg_tup C.hc (mgs_cons (mg_name 2 C.nd) (mgs_cons (mg_name 3 C.nd) (mgs_nil)))))
  (mss_cons (ms_set 3 C.nd (me_add (me_var 3) (me_mul (me_sub (me_modP (me_callC C F_L_cell_at (ma_cons (me_var 1) (ma_cons (me_int) (ma_nil)))) (me_add (me_mul (me_int) (me_pow (me_int) (me_int))) (me_int))) (me_pow (me_int) (me_int))) (me_var 2))))
  (mss_cons (ms_set 2 C.nd (me_add (me_var 2) (me_mul (me_sub (me_modP (me_callC C F_L_cell_at (ma_cons (me_var 1) (ma_cons (me_int) (ma_nil)))) (me_add (me_mul (me_int) (me_pow (me_int) (me_int))) (me_int))) (me_pow (me_int) (me_int))) (me_var 3))))
  (mss_one (ms_ret (me_tup (ma_cons (me_var 2) (ma_cons (me_var 3) (ma_nil))))))))) sem, hm, F.kp, bb⟩
/-! ### _law_from -/
abbrev s_L_from : Stmt := topS 37
theorem sc_L_from : FnScope ["start", "spot"] ["start", "spot"] (defScope s_L_from) := ⟨rfl, rfl, rfl, by decide +kernel, rfl, by decide +kernel, by decide +kernel⟩
abbrev ms_L_from : List Bool := [false, false]
def d_L_from : DS :=
  sRet (dTup (aCons (dSub (dIx (dVar 1) (dC (.int 0))) (dIx (dVar 0) (dC (.int 0)))) (aCons (dSub (dIx (dVar 1) (dC (.int 1))) (dIx (dVar 0) (dC (.int 1)))) (aNil))))
theorem ok_L_from {P : Program} {w : World} {K : PySem.W.Frag} {mg : MG} {base : Heap} {f : Addr} {fd : FuncData}  {S : Fsp} (F : Fun K "_law_from" "_law_from" s_L_from f fd) (hm : mg "_law_from" = some (.ref f)) (bb : Binds K fd ["start", "spot"] []) (B : Bs mg) (EX : Es K mg) 
    (sem : ∀ ds κ ε, S ds κ ε → d_L_from  (endsOf κ ε) (entry ms_L_from 2 ds)) : Cal P w K mg base 1 "_law_from" ["start", "spot"] ms_L_from S :=
  ⟨f, fd, fn_dl (k := 0) F sc_L_from rfl (fun cdv A outer s H E C => mss_one (ms_ret (me_tup (ma_cons (me_sub (me_ix (me_var 1) (me_int)) (me_ix (me_var 0) (me_int))) (ma_cons (me_sub (me_ix (me_var 1) (me_int)) (me_ix (me_var 0) (me_int))) (ma_nil)))))) sem, hm, F.kp, bb⟩
/-! ### _law_tried -/
abbrev s_L_tried : Stmt := topS 38
theorem sc_L_tried : FnScope ["one", "other", "at", "way", "p", "q", "r", "s", "wide", "tops", "top", "a", "b", "c", "d", "x", "y"] ["one", "other", "at", "way"] (defScope s_L_tried) := ⟨rfl, rfl, rfl, by decide +kernel, rfl, by decide +kernel, by decide +kernel⟩
abbrev ms_L_tried : List Bool := [false, false, false, false]
def b_L_tried_1 : DS :=
  sIf (tVal (dNe (dModP (dVar 10) (dVar 8)) (dC (.int 0))))
  (sRet (dC .non))
  (sNil)
def b_L_tried_2 : DE :=
  dDivP (dVar 10) (dVar 8)
def t_L_tried_12 (S_L_from : Fsp) : DS :=
  sRet (dTup (aCons (dVar 11) (aCons (dVar 12) (aCons (dVar 13) (aCons (dVar 14) (aCons (dVar 15) (aCons (dVar 16) (aNil))))))))
def t_L_tried_11 (S_L_from : Fsp) : DS :=
  sSeq (sAsg (dSub (dSub (dIx (dIx (dVar 1) (dVar 2)) (dC (.int 1))) (dMul (dVar 13) (dIx (dIx (dVar 0) (dC (.int 0))) (dC (.int 0))))) (dMul (dVar 14) (dIx (dIx (dVar 0) (dC (.int 0))) (dC (.int 1))))) (gN 16))
  (t_L_tried_12 S_L_from)
def t_L_tried_10 (S_L_from : Fsp) : DS :=
  sSeq (sAsg (dSub (dSub (dIx (dIx (dVar 1) (dVar 2)) (dC (.int 0))) (dMul (dVar 11) (dIx (dIx (dVar 0) (dC (.int 0))) (dC (.int 0))))) (dMul (dVar 12) (dIx (dIx (dVar 0) (dC (.int 0))) (dC (.int 1))))) (gN 15))
  (t_L_tried_11 S_L_from)
def t_L_tried_9 (S_L_from : Fsp) : DS :=
  sSeq (sIf (tVal (dNe (dB kAbs (aCons (dSub (dMul (dVar 11) (dVar 14)) (dMul (dVar 12) (dVar 13))) (aNil))) (dC (.int 1))))
  (sRet (dC .non))
  (sNil))
  (t_L_tried_10 S_L_from)
def t_L_tried_8 (S_L_from : Fsp) : DS :=
  sSeq (sAsg (dLc (iLst true (dVar 9)) (gN 10) tYesD b_L_tried_2 [10]) (gT 4 (gsCons (gN 11) (gsCons (gN 12) (gsCons (gN 13) (gsCons (gN 14) (gsNil)))))))
  (t_L_tried_9 S_L_from)
def t_L_tried_7 (S_L_from : Fsp) : DS :=
  sSeq (sFrz 9 (sFor (iLst false (dVar 9)) (gN 10) b_L_tried_1))
  (t_L_tried_8 S_L_from)
def t_L_tried_6 (S_L_from : Fsp) : DS :=
  sSeq (sAsg (dCat (dVar 9) (dLst (aCons (dSub (dMul (dIx (dVar 6) (dC (.int 1))) (dIx (dVar 5) (dC (.int 1)))) (dMul (dIx (dVar 7) (dC (.int 1))) (dIx (dVar 4) (dC (.int 1))))) (aCons (dSub (dMul (dIx (dVar 7) (dC (.int 1))) (dIx (dVar 4) (dC (.int 0)))) (dMul (dIx (dVar 6) (dC (.int 1))) (dIx (dVar 5) (dC (.int 0))))) (aNil))))) (gN 9))
  (t_L_tried_7 S_L_from)
def t_L_tried_5 (S_L_from : Fsp) : DS :=
  sSeq (sAsg (dLst (aCons (dSub (dMul (dIx (dVar 6) (dC (.int 0))) (dIx (dVar 5) (dC (.int 1)))) (dMul (dIx (dVar 7) (dC (.int 0))) (dIx (dVar 4) (dC (.int 1))))) (aCons (dSub (dMul (dIx (dVar 7) (dC (.int 0))) (dIx (dVar 4) (dC (.int 0)))) (dMul (dIx (dVar 6) (dC (.int 0))) (dIx (dVar 5) (dC (.int 0))))) (aNil)))) (gN 9))
  (t_L_tried_6 S_L_from)
def t_L_tried_4 (S_L_from : Fsp) : DS :=
  sSeq (sAsg (dSub (dMul (dIx (dVar 4) (dC (.int 0))) (dIx (dVar 5) (dC (.int 1)))) (dMul (dIx (dVar 4) (dC (.int 1))) (dIx (dVar 5) (dC (.int 0))))) (gN 8))
  (t_L_tried_5 S_L_from)
def t_L_tried_3 (S_L_from : Fsp) : DS :=
  sSeq (sAsg (dCall ms_L_from S_L_from (aCons (dIx (dVar 1) (dVar 2)) (aCons (dIx (dVar 1) (dModP (dSub (dVar 2) (dVar 3)) (dB kLen (aCons (dVar 1) (aNil))))) (aNil)))) (gN 7))
  (t_L_tried_4 S_L_from)
def t_L_tried_2 (S_L_from : Fsp) : DS :=
  sSeq (sAsg (dCall ms_L_from S_L_from (aCons (dIx (dVar 1) (dVar 2)) (aCons (dIx (dVar 1) (dModP (dPlus (dVar 2) (dVar 3)) (dB kLen (aCons (dVar 1) (aNil))))) (aNil)))) (gN 6))
  (t_L_tried_3 S_L_from)
def t_L_tried_1 (S_L_from : Fsp) : DS :=
  sSeq (sAsg (dCall ms_L_from S_L_from (aCons (dIx (dVar 0) (dC (.int 0))) (aCons (dIx (dVar 0) (dNeg (dC (.int 1)))) (aNil)))) (gN 5))
  (t_L_tried_2 S_L_from)
def d_L_tried (S_L_from : Fsp) : DS :=
  sSeq (sAsg (dCall ms_L_from S_L_from (aCons (dIx (dVar 0) (dC (.int 0))) (aCons (dIx (dVar 0) (dC (.int 1))) (aNil)))) (gN 4))
  (t_L_tried_1 S_L_from)
theorem ok_L_tried {P : Program} {w : World} {K : PySem.W.Frag} {mg : MG} {base : Heap} {f : Addr} {fd : FuncData} {S_L_from : Fsp} {S : Fsp} (F : Fun K "_law_tried" "_law_tried" s_L_tried f fd) (hm : mg "_law_tried" = some (.ref f)) (bb : Binds K fd ["one", "other", "at", "way"] []) (B : Bs mg) (EX : Es K mg) (F_L_from : Cal P w K mg base 1 "_law_from" ["start", "spot"] ms_L_from S_L_from)
    (sem : ∀ ds κ ε, S ds κ ε → d_L_tried S_L_from (endsOf κ ε) (entry ms_L_tried 17 ds)) : Cal P w K mg base 2 "_law_tried" ["one", "other", "at", "way"] ms_L_tried S :=
  ⟨f, fd, fn_dl (k := 1) F sc_L_tried rfl (fun cdv A outer s H E C => mss_cons (ms_set 4 C.nd (me_callC C F_L_from (ma_cons (me_ix (me_var 0) (me_int)) (ma_cons (me_ix (me_var 0) (me_int)) (ma_nil)))))
  (mss_cons (ms_set 5 C.nd (me_callC C F_L_from (ma_cons (me_ix (me_var 0) (me_int)) (ma_cons (me_ix (me_var 0) (me_neg (me_int))) (ma_nil)))))
  (mss_cons (ms_set 6 C.nd (me_callC C F_L_from (ma_cons (me_ix (me_var 1) (me_var 2)) (ma_cons (me_ix (me_var 1) (me_modP (me_plus (me_var 2) (me_var 3)) (me_len B.len_ (ma_cons (me_var 1) (ma_nil))))) (ma_nil)))))
  (mss_cons (ms_set 7 C.nd (me_callC C F_L_from (ma_cons (me_ix (me_var 1) (me_var 2)) (ma_cons (me_ix (me_var 1) (me_modP (me_sub (me_var 2) (me_var 3)) (me_len B.len_ (ma_cons (me_var 1) (ma_nil))))) (ma_nil)))))
  (mss_cons (ms_set 8 C.nd (me_sub (me_mul (me_ix (me_var 4) (me_int)) (me_ix (me_var 5) (me_int))) (me_mul (me_ix (me_var 4) (me_int)) (me_ix (me_var 5) (me_int)))))
  (mss_cons (ms_set 9 C.nd (me_lst (ma_cons (me_sub (me_mul (me_ix (me_var 6) (me_int)) (me_ix (me_var 5) (me_int))) (me_mul (me_ix (me_var 7) (me_int)) (me_ix (me_var 4) (me_int)))) (ma_cons (me_sub (me_mul (me_ix (me_var 7) (me_int)) (me_ix (me_var 4) (me_int))) (me_mul (me_ix (me_var 6) (me_int)) (me_ix (me_var 5) (me_int)))) (ma_nil)))))
  (mss_cons (ms_set 9 C.nd (me_cat (me_var 9) (me_lst (ma_cons (me_sub (me_mul (me_ix (me_var 6) (me_int)) (me_ix (me_var 5) (me_int))) (me_mul (me_ix (me_var 7) (me_int)) (me_ix (me_var 4) (me_int)))) (ma_cons (me_sub (me_mul (me_ix (me_var 7) (me_int)) (me_ix (me_var 4) (me_int))) (me_mul (me_ix (me_var 6) (me_int)) (me_ix (me_var 5) (me_int)))) (ma_nil))))))
  (mss_cons (ms_frz 9 (ms_for C (mi_list (me_var 9)) (mg_name 10 C.nd)
  (mss_one (ms_if (mt_ne C.hr.units (me_modP (me_var 10) (me_var 8)) (me_int))
  (mss_one (ms_ret (me_non)))
  (mss_nil)))))
  (mss_cons (ms_asg (me_lc (own := [("top", 10)]) C (mi_list (me_var 9)) (blkOk_by (N := ["one", "other", "at", "way", "p", "q", "r", "s", "wide", "tops", "top", "a", "b", "c", "d", "x", "y"]) (sc := defScope s_L_tried) (by decide +kernel)) (fun _ => mg_name 10 (C).blk.nd) (fun _ => mts_nil) (fun _ => me_divP (me_var 10) (me_var 8))) (mg_tup C.hc (mgs_cons (mg_name 11 C.nd) (mgs_cons (mg_name 12 C.nd) (mgs_cons (mg_name 13 C.nd) (mgs_cons (mg_name 14 C.nd) (mgs_nil)))))))
  (mss_cons (ms_if (mt_ne C.hr.units (me_abs B.abs_ (ma_cons (me_sub (me_mul (me_var 11) (me_var 14)) (me_mul (me_var 12) (me_var 13))) (ma_nil))) (me_int))
  (mss_one (ms_ret (me_non)))
  (mss_nil))
  (mss_cons (ms_set 15 C.nd (me_sub (me_sub (me_ix (me_ix (me_var 1) (me_var 2)) (me_int)) (me_mul (me_var 11) (me_ix (me_ix (me_var 0) (me_int)) (me_int)))) (me_mul (me_var 12) (me_ix (me_ix (me_var 0) (me_int)) (me_int)))))
  (mss_cons (ms_set 16 C.nd (me_sub (me_sub (me_ix (me_ix (me_var 1) (me_var 2)) (me_int)) (me_mul (me_var 13) (me_ix (me_ix (me_var 0) (me_int)) (me_int)))) (me_mul (me_var 14) (me_ix (me_ix (me_var 0) (me_int)) (me_int)))))
  (mss_one (ms_ret (me_tup (ma_cons (me_var 11) (ma_cons (me_var 12) (ma_cons (me_var 13) (ma_cons (me_var 14) (ma_cons (me_var 15) (ma_cons (me_var 16) (ma_nil)))))))))))))))))))))) sem, hm, F.kp, bb⟩
/-! ### _law_by -/
abbrev s_L_by : Stmt := topS 39
theorem sc_L_by : FnScope ["move", "spot", "x"] ["move", "spot"] (defScope s_L_by) := ⟨rfl, rfl, rfl, by decide +kernel, rfl, by decide +kernel, by decide +kernel⟩
abbrev ms_L_by : List Bool := [false, false]
def t_L_by_1 : DS :=
  sRet (dTup (aCons (dVar 2) (aCons (dAdd (dAdd (dMul (dIx (dVar 0) (dC (.int 2))) (dIx (dVar 1) (dC (.int 0)))) (dMul (dIx (dVar 0) (dC (.int 3))) (dIx (dVar 1) (dC (.int 1))))) (dIx (dVar 0) (dC (.int 5)))) (aNil))))
def d_L_by : DS :=
  sSeq (sAsg (dAdd (dAdd (dMul (dIx (dVar 0) (dC (.int 0))) (dIx (dVar 1) (dC (.int 0)))) (dMul (dIx (dVar 0) (dC (.int 1))) (dIx (dVar 1) (dC (.int 1))))) (dIx (dVar 0) (dC (.int 4)))) (gN 2))
  t_L_by_1
theorem ok_L_by {P : Program} {w : World} {K : PySem.W.Frag} {mg : MG} {base : Heap} {f : Addr} {fd : FuncData}  {S : Fsp} (F : Fun K "_law_by" "_law_by" s_L_by f fd) (hm : mg "_law_by" = some (.ref f)) (bb : Binds K fd ["move", "spot"] []) (B : Bs mg) (EX : Es K mg) 
    (sem : ∀ ds κ ε, S ds κ ε → d_L_by  (endsOf κ ε) (entry ms_L_by 3 ds)) : Cal P w K mg base 1 "_law_by" ["move", "spot"] ms_L_by S :=
  ⟨f, fd, fn_dl (k := 0) F sc_L_by rfl (fun cdv A outer s H E C => mss_cons (ms_set 2 C.nd (me_add (me_add (me_mul (me_ix (me_var 0) (me_int)) (me_ix (me_var 1) (me_int))) (me_mul (me_ix (me_var 0) (me_int)) (me_ix (me_var 1) (me_int)))) (me_ix (me_var 0) (me_int))))
  (mss_one (ms_ret (me_tup (ma_cons (me_var 2) (ma_cons (me_add (me_add (me_mul (me_ix (me_var 0) (me_int)) (me_ix (me_var 1) (me_int))) (me_mul (me_ix (me_var 0) (me_int)) (me_ix (me_var 1) (me_int)))) (me_ix (me_var 0) (me_int))) (ma_nil))))))) sem, hm, F.kp, bb⟩
/-! ### _law_takes -/
abbrev s_L_takes : Stmt := topS 40
theorem sc_L_takes : FnScope ["move", "one", "other", "spot"] ["move", "one", "other"] (defScope s_L_takes) := ⟨rfl, rfl, rfl, by decide +kernel, rfl, by decide +kernel, by decide +kernel⟩
abbrev ms_L_takes : List Bool := [false, false, false]
def b_L_takes_1 (S_L_by : Fsp) : DE :=
  dCall ms_L_by S_L_by (aCons (dVar 0) (aCons (dVar 3) (aNil)))
def d_L_takes (S_L_by : Fsp) : DS :=
  sRet (dEq (dSorted (dLc (iLst true (dVar 1)) (gN 3) tYesD (b_L_takes_1 S_L_by) [3])) (dSorted (dVar 2)))
theorem ok_L_takes {P : Program} {w : World} {K : PySem.W.Frag} {mg : MG} {base : Heap} {f : Addr} {fd : FuncData} {S_L_by : Fsp} {S : Fsp} (F : Fun K "_law_takes" "_law_takes" s_L_takes f fd) (hm : mg "_law_takes" = some (.ref f)) (bb : Binds K fd ["move", "one", "other"] []) (B : Bs mg) (EX : Es K mg) (F_L_by : Cal P w K mg base 1 "_law_by" ["move", "spot"] ms_L_by S_L_by)
    (sem : ∀ ds κ ε, S ds κ ε → d_L_takes S_L_by (endsOf κ ε) (entry ms_L_takes 4 ds)) : Cal P w K mg base 2 "_law_takes" ["move", "one", "other"] ms_L_takes S :=
  ⟨f, fd, fn_dl (k := 1) F sc_L_takes rfl (fun cdv A outer s H E C => mss_one (ms_ret (me_eq C.hr.units (me_sorted C B.sorted_ (me_lc (own := [("spot", 3)]) C (mi_list (me_var 1)) (blkOk_by (N := ["move", "one", "other", "spot"]) (sc := defScope s_L_takes) (by decide +kernel)) (fun _ => mg_name 3 (C).blk.nd) (fun _ => mts_nil) (fun _ => me_callC (C).blk F_L_by (ma_cons (me_var 0) (ma_cons (me_var 3) (ma_nil)))))) (me_sorted C B.sorted_ (me_var 2))))) sem, hm, F.kp, bb⟩
/-! ### _law_any -/
abbrev s_L_any : Stmt := topS 41
theorem sc_L_any : FnScope ["one", "other", "at", "way", "move"] ["one", "other"] (defScope s_L_any) := ⟨rfl, rfl, rfl, by decide +kernel, rfl, by decide +kernel, by decide +kernel⟩
abbrev ms_L_any : List Bool := [false, false]
def b_L_any_1 (S_L_tried : Fsp) (S_L_takes : Fsp) : DS :=
  sSeq (sAsg (dCall ms_L_tried S_L_tried (aCons (dVar 0) (aCons (dVar 1) (aCons (dVar 2) (aCons (dVar 3) (aNil)))))) (gN 4))
  (sIf (tAndD (tVal (dIsN true (dVar 4))) (tVal (dCall ms_L_takes S_L_takes (aCons (dVar 4) (aCons (dVar 0) (aCons (dVar 1) (aNil)))))))
  (sRet (dC (.bl true)))
  (sNil))
def b_L_any_2 (S_L_tried : Fsp) (S_L_takes : Fsp) : DS :=
  sFor (iLst false (dLst (aCons (dC (.int 1)) (aCons (dNeg (dC (.int 1))) (aNil))))) (gN 3) (b_L_any_1 S_L_tried S_L_takes)
def t_L_any_2 (S_L_tried : Fsp) (S_L_takes : Fsp) : DS :=
  sRet (dC (.bl false))
def t_L_any_1 (S_L_tried : Fsp) (S_L_takes : Fsp) : DS :=
  sSeq (sFor (iRng1 (dB kLen (aCons (dVar 1) (aNil)))) (gN 2) (b_L_any_2 S_L_tried S_L_takes))
  (t_L_any_2 S_L_tried S_L_takes)
def d_L_any (S_L_tried : Fsp) (S_L_takes : Fsp) : DS :=
  sSeq (sIf (tVal (dNe (dB kLen (aCons (dVar 0) (aNil))) (dB kLen (aCons (dVar 1) (aNil)))))
  (sRet (dC (.bl false)))
  (sNil))
  (t_L_any_1 S_L_tried S_L_takes)
theorem ok_L_any {P : Program} {w : World} {K : PySem.W.Frag} {mg : MG} {base : Heap} {f : Addr} {fd : FuncData} {S_L_tried : Fsp} {S_L_takes : Fsp} {S : Fsp} (F : Fun K "_law_any" "_law_any" s_L_any f fd) (hm : mg "_law_any" = some (.ref f)) (bb : Binds K fd ["one", "other"] []) (B : Bs mg) (EX : Es K mg) (F_L_tried : Cal P w K mg base 2 "_law_tried" ["one", "other", "at", "way"] ms_L_tried S_L_tried) (F_L_takes : Cal P w K mg base 2 "_law_takes" ["move", "one", "other"] ms_L_takes S_L_takes)
    (sem : ∀ ds κ ε, S ds κ ε → d_L_any S_L_tried S_L_takes (endsOf κ ε) (entry ms_L_any 5 ds)) : Cal P w K mg base 3 "_law_any" ["one", "other"] ms_L_any S :=
  ⟨f, fd, fn_dl (k := 2) F sc_L_any rfl (fun cdv A outer s H E C => mss_cons (ms_if (mt_ne C.hr.units (me_len B.len_ (ma_cons (me_var 0) (ma_nil))) (me_len B.len_ (ma_cons (me_var 1) (ma_nil))))
  (mss_one (ms_ret (me_bl)))
  (mss_nil))
  (mss_cons (ms_for C (mi_rng1 B.range_ (me_len B.len_ (ma_cons (me_var 1) (ma_nil)))) (mg_name 2 C.nd)
  (mss_one (ms_for C (mi_list (me_lst (ma_cons (me_int) (ma_cons (me_neg (me_int)) (ma_nil))))) (mg_name 3 C.nd)
  (mss_cons (ms_set 4 C.nd (me_callC C F_L_tried (ma_cons (me_var 0) (ma_cons (me_var 1) (ma_cons (me_var 2) (ma_cons (me_var 3) (ma_nil)))))))
  (mss_one (ms_if ((mw_and (mt_isNn (me_var 4)) (mw_and1 (mt_val (me_callC C F_L_takes (ma_cons (me_var 4) (ma_cons (me_var 0) (ma_cons (me_var 1) (ma_nil)))))))).mt)
  (mss_one (ms_ret (me_bl)))
  (mss_nil)))))))
  (mss_one (ms_ret (me_bl))))) sem, hm, F.kp, bb⟩
/-! ### law -/
abbrev s_law : Stmt := topS 42
theorem sc_law : FnScope ["script", "one", "other", "spot", "found", "x"] ["script"] (defScope s_law) := ⟨rfl, rfl, rfl, by decide +kernel, rfl, by decide +kernel, by decide +kernel⟩
abbrev ms_law : List Bool := [false]
def b_law_1 (S_L_lean : Fsp) : DE :=
  dCall ms_L_lean S_L_lean (aCons (dVar 3) (aCons (dVar 0) (aNil)))
def b_law_2 (S_L_whole : Fsp) : DT :=
  tVal (dCall ms_L_whole S_L_whole (aCons (dVar 5) (aNil)))
def b_law_3 : DE :=
  dVar 5
def t_law_6 (S_L_two : Fsp) (S_L_corners : Fsp) (S_L_lean : Fsp) (S_alike : Fsp) (S_L_any : Fsp) (S_L_whole : Fsp) (S_L_takes : Fsp) : DS :=
  sRet (dAnd (dEq (dB kAbs (aCons (dSub (dMul (dIx (dVar 4) (dC (.int 0))) (dIx (dVar 4) (dC (.int 3)))) (dMul (dIx (dVar 4) (dC (.int 1))) (dIx (dVar 4) (dC (.int 2))))) (aNil))) (dC (.int 1))) (dCall ms_L_takes S_L_takes (aCons (dVar 4) (aCons (dVar 1) (aCons (dVar 2) (aNil))))))
def t_law_5 (S_L_two : Fsp) (S_L_corners : Fsp) (S_L_lean : Fsp) (S_alike : Fsp) (S_L_any : Fsp) (S_L_whole : Fsp) (S_L_takes : Fsp) : DS :=
  sSeq (sIf (tOrD (tNotD (tVal (dIsi .tuple (dVar 4)))) (tOrD (tVal (dNe (dB kLen (aCons (dVar 4) (aNil))) (dC (.int 6)))) (tVal (dNe (dB kLen (aCons (dLc (iLst true (dVar 4)) (gN 5) (b_law_2 S_L_whole) b_law_3 [5]) (aNil))) (dC (.int 6))))))
  (sRet (dC (.bl false)))
  (sNil))
  (t_law_6 S_L_two S_L_corners S_L_lean S_alike S_L_any S_L_whole S_L_takes)
def t_law_4 (S_L_two : Fsp) (S_L_corners : Fsp) (S_L_lean : Fsp) (S_alike : Fsp) (S_L_any : Fsp) (S_L_whole : Fsp) (S_L_takes : Fsp) : DS :=
  sSeq (sIf (tNotD (tVal (dCall ms_L_any S_L_any (aCons (dVar 1) (aCons (dVar 2) (aNil))))))
  (sRet (dIsN false (dVar 4)))
  (sNil))
  (t_law_5 S_L_two S_L_corners S_L_lean S_alike S_L_any S_L_whole S_L_takes)
def t_law_3 (S_L_two : Fsp) (S_L_corners : Fsp) (S_L_lean : Fsp) (S_alike : Fsp) (S_L_any : Fsp) (S_L_whole : Fsp) (S_L_takes : Fsp) : DS :=
  sSeq (sAsg (dCall ms_alike S_alike (aCons (dB kList (aCons (dVar 1) (aNil))) (aCons (dB kList (aCons (dVar 2) (aNil))) (aNil)))) (gN 4))
  (t_law_4 S_L_two S_L_corners S_L_lean S_alike S_L_any S_L_whole S_L_takes)
def t_law_2 (S_L_two : Fsp) (S_L_corners : Fsp) (S_L_lean : Fsp) (S_alike : Fsp) (S_L_any : Fsp) (S_L_whole : Fsp) (S_L_takes : Fsp) : DS :=
  sSeq (sAsg (dCall ms_L_corners S_L_corners (aCons (dLc (iLst true (dVar 2)) (gN 3) tYesD (b_law_1 S_L_lean) [3]) (aNil))) (gN 2))
  (t_law_3 S_L_two S_L_corners S_L_lean S_alike S_L_any S_L_whole S_L_takes)
def t_law_1 (S_L_two : Fsp) (S_L_corners : Fsp) (S_L_lean : Fsp) (S_alike : Fsp) (S_L_any : Fsp) (S_L_whole : Fsp) (S_L_takes : Fsp) : DS :=
  sSeq (sAsg (dCall ms_L_corners S_L_corners (aCons (dVar 1) (aNil))) (gN 1))
  (t_law_2 S_L_two S_L_corners S_L_lean S_alike S_L_any S_L_whole S_L_takes)
def d_law (S_L_two : Fsp) (S_L_corners : Fsp) (S_L_lean : Fsp) (S_alike : Fsp) (S_L_any : Fsp) (S_L_whole : Fsp) (S_L_takes : Fsp) : DS :=
  sSeq (sAsg (dCall ms_L_two S_L_two (aCons (dVar 0) (aNil))) (gT 2 (gsCons (gN 1) (gsCons (gN 2) (gsNil)))))
  (t_law_1 S_L_two S_L_corners S_L_lean S_alike S_L_any S_L_whole S_L_takes)
theorem ok_law {P : Program} {w : World} {K : PySem.W.Frag} {mg : MG} {base : Heap} {f : Addr} {fd : FuncData} {S_L_two : Fsp} {S_L_corners : Fsp} {S_L_lean : Fsp} {S_alike : Fsp} {S_L_any : Fsp} {S_L_whole : Fsp} {S_L_takes : Fsp} {S : Fsp} (F : Fun K "law" "law" s_law f fd) (hm : mg "law" = some (.ref f)) (bb : Binds K fd ["script"] []) (B : Bs mg) (EX : Es K mg) (F_L_two : Cal P w K mg base 3 "_law_two" ["script"] ms_L_two S_L_two) (F_L_corners : Cal P w K mg base 2 "_law_corners" ["points"] ms_L_corners S_L_corners) (F_L_lean : Cal P w K mg base 2 "_law_lean" ["spot", "script"] ms_L_lean S_L_lean) (F_alike : Cal P w K mg base 9 "alike" ["one", "other"] ms_alike S_alike) (F_L_any : Cal P w K mg base 3 "_law_any" ["one", "other"] ms_L_any S_L_any) (F_L_whole : Cal P w K mg base 1 "_law_whole" ["found"] ms_L_whole S_L_whole) (F_L_takes : Cal P w K mg base 2 "_law_takes" ["move", "one", "other"] ms_L_takes S_L_takes)
    (sem : ∀ ds κ ε, S ds κ ε → d_law S_L_two S_L_corners S_L_lean S_alike S_L_any S_L_whole S_L_takes (endsOf κ ε) (entry ms_law 6 ds)) : Cal P w K mg base 10 "law" ["script"] ms_law S :=
  ⟨f, fd, fn_dl (k := 9) F sc_law rfl (fun cdv A outer s H E C => mss_cons (ms_asg (me_callC C F_L_two (ma_cons (me_var 0) (ma_nil))) (mg_tup C.hc (mgs_cons (mg_name 1 C.nd) (mgs_cons (mg_name 2 C.nd) (mgs_nil)))))
  (mss_cons (ms_set 1 C.nd (me_callC C F_L_corners (ma_cons (me_var 1) (ma_nil))))
  (mss_cons (ms_set 2 C.nd (me_callC C F_L_corners (ma_cons (me_lc (own := [("spot", 3)]) C (mi_list (me_var 2)) (blkOk_by (N := ["script", "one", "other", "spot", "found", "x"]) (sc := defScope s_law) (by decide +kernel)) (fun _ => mg_name 3 (C).blk.nd) (fun _ => mts_nil) (fun _ => me_callC (C).blk F_L_lean (ma_cons (me_var 3) (ma_cons (me_var 0) (ma_nil))))) (ma_nil))))
  (mss_cons (ms_set 4 C.nd (me_callC C F_alike (ma_cons (me_list B.list_ (ma_cons (me_var 1) (ma_nil))) (ma_cons (me_list B.list_ (ma_cons (me_var 2) (ma_nil))) (ma_nil)))))
  (mss_cons (ms_if (mt_not (mt_val (me_callC C F_L_any (ma_cons (me_var 1) (ma_cons (me_var 2) (ma_nil))))))
  (mss_one (ms_ret (me_isN (me_var 4))))
  (mss_nil))
  (mss_cons (ms_if ((mw_or (mt_not (mt_val (me_isi .tuple (by decide +kernel) B.isinstance_ B.tuple_ (me_var 4)))) (mw_or (mt_ne C.hr.units (me_len B.len_ (ma_cons (me_var 4) (ma_nil))) (me_int)) (mw_or1 (mt_ne C.hr.units (me_len B.len_ (ma_cons (me_lc (own := [("x", 5)]) C (mi_list (me_var 4)) (blkOk_by (N := ["script", "one", "other", "spot", "found", "x"]) (sc := defScope s_law) (by decide +kernel)) (fun _ => mg_name 5 (C).blk.nd) (fun _ => mts_one (mt_val (me_callC (C).blk F_L_whole (ma_cons (me_var 5) (ma_nil))))) (fun _ => me_var 5)) (ma_nil))) (me_int))))).mt)
  (mss_one (ms_ret (me_bl)))
  (mss_nil))
  (mss_one (ms_ret (me_and (me_eq C.hr.units (me_abs B.abs_ (ma_cons (me_sub (me_mul (me_ix (me_var 4) (me_int)) (me_ix (me_var 4) (me_int))) (me_mul (me_ix (me_var 4) (me_int)) (me_ix (me_var 4) (me_int)))) (ma_nil))) (me_int)) (me_one (me_callC C F_L_takes (ma_cons (me_var 4) (ma_cons (me_var 1) (ma_cons (me_var 2) (ma_nil))))))))))))))) sem, hm, F.kp, bb⟩
theorem fn_law {P : Program} {w : World} {K : PySem.W.Frag} {mg : MG} {base : Heap} {f : Addr} {fd : FuncData} {S_L_two : Fsp} {S_L_corners : Fsp} {S_L_lean : Fsp} {S_alike : Fsp} {S_L_any : Fsp} {S_L_whole : Fsp} {S_L_takes : Fsp} {S : Fsp} (F : Fun K "law" "law" s_law f fd) (B : Bs mg) (EX : Es K mg) (F_L_two : Cal P w K mg base 3 "_law_two" ["script"] ms_L_two S_L_two) (F_L_corners : Cal P w K mg base 2 "_law_corners" ["points"] ms_L_corners S_L_corners) (F_L_lean : Cal P w K mg base 2 "_law_lean" ["spot", "script"] ms_L_lean S_L_lean) (F_alike : Cal P w K mg base 9 "alike" ["one", "other"] ms_alike S_alike) (F_L_any : Cal P w K mg base 3 "_law_any" ["one", "other"] ms_L_any S_L_any) (F_L_whole : Cal P w K mg base 1 "_law_whole" ["found"] ms_L_whole S_L_whole) (F_L_takes : Cal P w K mg base 2 "_law_takes" ["move", "one", "other"] ms_L_takes S_L_takes)
    (sem : ∀ ds κ ε, S ds κ ε → d_law S_L_two S_L_corners S_L_lean S_alike S_L_any S_L_whole S_L_takes (endsOf κ ε) (entry ms_law 6 ds)) : FnOk P w K mg base (L2.CX P w) 10 f fd ["script"] (spOf K mg ms_law S) :=
  fn_dl (k := 9) F sc_law rfl (fun cdv A outer s H E C => mss_cons (ms_asg (me_callC C F_L_two (ma_cons (me_var 0) (ma_nil))) (mg_tup C.hc (mgs_cons (mg_name 1 C.nd) (mgs_cons (mg_name 2 C.nd) (mgs_nil)))))
  (mss_cons (ms_set 1 C.nd (me_callC C F_L_corners (ma_cons (me_var 1) (ma_nil))))
  (mss_cons (ms_set 2 C.nd (me_callC C F_L_corners (ma_cons (me_lc (own := [("spot", 3)]) C (mi_list (me_var 2)) (blkOk_by (N := ["script", "one", "other", "spot", "found", "x"]) (sc := defScope s_law) (by decide +kernel)) (fun _ => mg_name 3 (C).blk.nd) (fun _ => mts_nil) (fun _ => me_callC (C).blk F_L_lean (ma_cons (me_var 3) (ma_cons (me_var 0) (ma_nil))))) (ma_nil))))
  (mss_cons (ms_set 4 C.nd (me_callC C F_alike (ma_cons (me_list B.list_ (ma_cons (me_var 1) (ma_nil))) (ma_cons (me_list B.list_ (ma_cons (me_var 2) (ma_nil))) (ma_nil)))))
  (mss_cons (ms_if (mt_not (mt_val (me_callC C F_L_any (ma_cons (me_var 1) (ma_cons (me_var 2) (ma_nil))))))
  (mss_one (ms_ret (me_isN (me_var 4))))
  (mss_nil))
  (mss_cons (ms_if ((mw_or (mt_not (mt_val (me_isi .tuple (by decide +kernel) B.isinstance_ B.tuple_ (me_var 4)))) (mw_or (mt_ne C.hr.units (me_len B.len_ (ma_cons (me_var 4) (ma_nil))) (me_int)) (mw_or1 (mt_ne C.hr.units (me_len B.len_ (ma_cons (me_lc (own := [("x", 5)]) C (mi_list (me_var 4)) (blkOk_by (N := ["script", "one", "other", "spot", "found", "x"]) (sc := defScope s_law) (by decide +kernel)) (fun _ => mg_name 5 (C).blk.nd) (fun _ => mts_one (mt_val (me_callC (C).blk F_L_whole (ma_cons (me_var 5) (ma_nil))))) (fun _ => me_var 5)) (ma_nil))) (me_int))))).mt)
  (mss_one (ms_ret (me_bl)))
  (mss_nil))
  (mss_one (ms_ret (me_and (me_eq C.hr.units (me_abs B.abs_ (ma_cons (me_sub (me_mul (me_ix (me_var 4) (me_int)) (me_ix (me_var 4) (me_int))) (me_mul (me_ix (me_var 4) (me_int)) (me_ix (me_var 4) (me_int)))) (ma_nil))) (me_int)) (me_one (me_callC C F_L_takes (ma_cons (me_var 4) (ma_cons (me_var 1) (ma_cons (me_var 2) (ma_nil))))))))))))))) sem
end Py
local macro_rules | `(tactic| walk_at "bt") => `(tactic| first
  | assumption
  | ((with_reducible apply DL.Bt.add) <;> walk_at "bt")
  | ((with_reducible apply DL.Bt.sub) <;> walk_at "bt")
  | ((with_reducible apply DL.Bt.mul) <;> walk_at "bt")
  | ((with_reducible apply DL.Bt.neg) <;> walk_at "bt")
  | with_reducible exact DL.Bt.emod' (by decide +kernel)
  | ((with_reducible apply DL.Bt.ediv) <;> walk_at "bt")
  | ((with_reducible apply DL.Bt.ite) <;> walk_at "bt")
  | ((with_reducible apply DL.BP.x) <;> assumption)
  | ((with_reducible apply DL.BP.y) <;> assumption)
  | with_reducible exact DL.Bt.any)
local macro_rules | `(tactic| walk_at "btl") => `(tactic| ((apply DL.Bt.le); (focus (walk_at "bt")); decide +kernel))
local macro_rules | `(tactic| walk_at "side") => `(tactic| first
  | with_reducible exact rfl
  | ((with_reducible apply DL.modp_lit); decide +kernel)
  | ((with_reducible apply DL.divp_lit); decide +kernel)
  | ((with_reducible apply DL.cpow_lit); decide +kernel)
  | ((with_reducible apply DL.mulok); (focus (walk_at "bt")); (focus (walk_at "bt")); decide +kernel)
  | with_reducible exact DL.Cls.modp (by assumption)
  | with_reducible exact DL.Cls.rng (by assumption)
  | exact ⟨rfl, rfl⟩
  | exact rfl)
local macro_rules | `(tactic| walk_at "go") => `(tactic| repeat (refine ⟨by walk_at "side", ?_⟩))
local macro_rules | `(tactic| walk_at "st1") => `(tactic| first
  | refine ⟨by walk_at "side", ?_⟩
  | refine DL.ifF rfl ?_
  | refine DL.ifT rfl ?_
  | (refine DL.Cls.ix ?_ _ ?_; assumption; intro _ _)
  | (refine DL.S_num_go ?_ ?_; (focus (walk_at "btl")); intro _ _)
  | walk_at "call")
local macro_rules | `(tactic| walk_at "st") => `(tactic| repeat (walk_at "st1"))
local macro_rules | `(tactic| walk_at "br") => `(tactic| repeat' (first | walk_at "st1" | refine DL.ifb (fun _ => ?_) (fun _ => ?_)))
local macro_rules | `(tactic| walk_at "ite") => `(tactic| ((repeat' split) <;> omega))
local macro_rules | `(tactic| walk_at "rng3") => `(tactic| (refine ⟨DL.rN _ _ _, DL.rgC_up ?_ ?_ ?_ ?_ ?_ ?_, ?_⟩; decide; decide; (focus (walk_at "ite")); (focus (walk_at "ite")); decide; decide))
local macro_rules | `(tactic| walk_at "nz") => `(tactic| dsimp only [List.set_cons_succ, List.set_cons_zero])
local macro_rules | `(tactic| walk_at "w") => `(tactic| conv => whnf)
local macro_rules | `(tactic| walk_at "lp") => `(tactic| (walk_at "w"; refine ⟨rfl, ?_⟩; walk_at "w"))
local macro_rules | `(tactic| walk_at "isx") => `(tactic| repeat (first | refine ⟨rfl, ?_⟩ | refine DL.onS_some rfl ?_ | refine ⟨Nat.le_of_lt (DL.sz_ok (by decide)), ?_⟩))
local macro_rules | `(tactic| walk_at "eq") => `(tactic| (refine ⟨⟨rfl, rfl⟩, ?_⟩; walk_at "w"))
local macro_rules | `(tactic| walk_at "au") => `(tactic| repeat (first | (refine DL.onS_some rfl ?_; walk_at "w") | (refine ⟨⟨rfl, rfl⟩, ?_⟩; walk_at "w") | (refine ⟨rfl, ?_⟩; walk_at "w") | (refine ⟨by walk_at "side", ?_⟩; walk_at "w") | (refine ⟨Nat.le_of_lt (DL.sz_ok (by decide)), ?_⟩; walk_at "w")))
local macro_rules | `(tactic| walk_at "au1") => `(tactic| (walk_at "w"; first | refine DL.onS_some rfl ?_ | refine ⟨⟨rfl, rfl⟩, ?_⟩ | refine ⟨rfl, ?_⟩ | refine ⟨by walk_at "side", ?_⟩ | refine ⟨Nat.le_of_lt (DL.sz_ok (by decide)), ?_⟩))
namespace Py
open PySem PySem.Spec PyProof.Rows L2 DL Num
/-! #### shares -/
structure ShInv (a b σ : Int) (h l : Nat) (s u : Int) : Prop where
  h0 : 0 < h
  lh : l < h
  hb : h ≤ b.natAbs
  d1 : b ∣ σ * h - s * a
  d2 : b ∣ σ * l - u * a
  m : u.natAbs * h + s.natAbs * l ≤ b.natAbs
  g : Nat.gcd h l = Nat.gcd a.natAbs b.natAbs
theorem sg_fdiv {σ : Int} (hσ : σ = 1 ∨ σ = -1) (h l : Nat) : (σ * h).fdiv (σ * l) = ((h / l : Nat) : Int) := by
  rcases hσ with rfl | rfl
  · rw [Int.one_mul, Int.one_mul, Int.fdiv_eq_ediv_of_nonneg _ (by omega)]; rfl
  · rw [show (-1 : Int) * h = -h by omega, show (-1 : Int) * l = -l by omega, Int.neg_fdiv_neg, Int.fdiv_eq_ediv_of_nonneg _ (by omega)]; rfl
theorem ShInv.step {a b σ : Int} {h l : Nat} {s u : Int} (hσ : σ = 1 ∨ σ = -1) (I : ShInv a b σ h l s u) (hl : l ≠ 0) : ShInv a b σ l (h % l) u (s - ((h / l : Nat) : Int) * u) := by
  have hdm := Nat.div_add_mod h l
  have hb := I.hb
  refine ⟨by omega, Nat.mod_lt _ (by omega), by have := I.lh; omega, I.d2, ?_, ?_, ?_⟩
  · have e : σ * ((h % l : Nat) : Int) - (s - ((h / l : Nat) : Int) * u) * a = (σ * h - s * a) - ((h / l : Nat) : Int) * (σ * l - u * a) := by
      have : (h : Int) = (l : Int) * ((h / l : Nat) : Int) + ((h % l : Nat) : Int) := by rw [← Int.natCast_mul, ← Int.natCast_add, hdm]
      rw [this]; grind
    rw [e]
    exact Int.dvd_sub I.d1 (Int.dvd_mul_of_dvd_right I.d2)
  · have h1 : (s - ((h / l : Nat) : Int) * u).natAbs ≤ s.natAbs + (h / l) * u.natAbs := by
      have := Int.natAbs_sub_le s (((h / l : Nat) : Int) * u)
      rw [abs_mul, Int.natAbs_natCast] at this
      exact this
    have h2 := Nat.mul_le_mul_right l h1
    have h3 := I.m
    have h4 : (s.natAbs + (h / l) * u.natAbs) * l + u.natAbs * (h % l) = u.natAbs * h + s.natAbs * l := by
      rw [Nat.add_mul]
      have : u.natAbs * h = u.natAbs * (l * (h / l)) + u.natAbs * (h % l) := by rw [← Nat.mul_add, hdm]
      rw [this]
      have : h / l * u.natAbs * l = u.natAbs * (l * (h / l)) := by rw [Nat.mul_comm l, ← Nat.mul_assoc, Nat.mul_comm u.natAbs]
      omega
    omega
  · rw [← I.g, Nat.gcd_comm h l, Nat.gcd_rec l h, Nat.gcd_comm]
@[irreducible] def S_shares : Fsp := fun ds κ _ => ∃ a b : Int, ds = [.int a, .int b] ∧ Bt 8000 a ∧ Bt 8000 b ∧ κ (.v (.tup [.int (sh a b).1, .int (sh a b).2.1, .int (sh a b).2.2]))
theorem shares_go {a b : Int} {κ : Rv → Prop} {ε : Str → Prop} (ha : Bt 8000 a) (hb : Bt 8000 b) (k : κ (.v (.tup [.int (sh a b).1, .int (sh a b).2.1, .int (sh a b).2.2]))) : S_shares [.int a, .int b] κ ε := by
  unfold S_shares; exact ⟨a, b, rfl, ha, hb, k⟩
theorem shares_loop {a b σ : Int} (hσ : σ = 1 ∨ σ = -1) (ha : Bt 8000 a) (hb : Bt 8000 b) {κ : DEnds}
    (k : ∀ (h : Nat) (s u : Int) (t : Sl), ShInv a b σ h 0 s u → κ.nx [.fz (.int a), .fz (.int b), .fz (.int (σ * h)), .fz (.int (σ * (0 : Nat))), .fz (.int s), .fz (.int u), t]) :
    ∀ (n h l : Nat) (s u : Int) (t : Sl), l < n → ShInv a b σ h l s u → wIter b_shares_1 b_shares_2 κ n [.fz (.int a), .fz (.int b), .fz (.int (σ * h)), .fz (.int (σ * l)), .fz (.int s), .fz (.int u), t]
  | 0, h, l, s, u, t, hl, _ => (Nat.not_lt_zero _ hl).elim
  | n + 1, h, l, s, u, t, hl, I => by
    have σ1 : Bt 1 σ := by rcases hσ with rfl | rfl <;> exact Bt.lit rfl
    have Bh : Bt 8000 (h : Int) := hb.le_abs (by have := I.hb; omega)
    have Bl : Bt 8000 (l : Int) := hb.le_abs (by have := I.hb; have := I.lh; omega)
    refine ⟨⟨rfl, rfl⟩, ifNe (fun h0 => ?_) (fun h0 => ?_)⟩
    · have hl0 : l ≠ 0 := fun z => h0 (by rw [z]; simp)
      have e := sg_fdiv hσ h l
      have hq : h / l ≤ h := Nat.div_le_self _ _
      have hh := I.hb
      have Bu : Bt 8000 u := hb.le_abs (by
        have h1 := I.m
        have h2 : u.natAbs * 1 ≤ u.natAbs * h := Nat.mul_le_mul_left _ I.h0
        omega)
      have Bq : Bt 8000 ((σ * h).fdiv (σ * l)) := by rw [e]; exact hb.le_abs (by rw [Int.natAbs_natCast]; exact Nat.le_trans hq hh)
      have Bl2 := σ1.mul Bl
      refine ⟨⟨h0, Nat.lt_of_lt_of_le (Bl2.log2 (by decide)) (by decide)⟩, mulok Bq Bl2 rfl, mulok Bq Bu rfl, ?_⟩
      have e2 : σ * (h : Int) - (σ * h).fdiv (σ * l) * (σ * l) = σ * ((h % l : Nat) : Int) := by
        rw [e]
        have : (h : Int) = (l : Int) * ((h / l : Nat) : Int) + ((h % l : Nat) : Int) := by rw [← Int.natCast_mul, ← Int.natCast_add, Nat.div_add_mod]
        generalize ((h / l : Nat) : Int) = q at *
        generalize ((h % l : Nat) : Int) = r at *
        rw [this]; grind
      show wIter b_shares_1 b_shares_2 κ n [.fz (.int a), .fz (.int b), .fz (.int (σ * l)), .fz (.int (σ * (h : Int) - (σ * h).fdiv (σ * l) * (σ * l))), .fz (.int u), .fz (.int (s - (σ * h).fdiv (σ * l) * u)), _]
      rw [e2, e]
      exact shares_loop hσ ha hb k n l (h % l) u _ _ (by have := Nat.mod_lt h (show 0 < l by omega); omega) (I.step hσ hl0)
    · have hl0 : l = 0 := by
        rcases hσ with rfl | rfl <;> omega
      subst hl0
      exact k h s u t I
theorem shares_fin {a b σ : Int} (hσ : σ = 1 ∨ σ = -1) (hb : b = σ * b.natAbs) (hb0 : b ≠ 0) {h : Nat} {s u : Int} (I : ShInv a b σ h 0 s u) : 0 < (b.natAbs : Int) / h ∧ Shares a b h ((σ * s) % ((b.natAbs : Int) / h)) (((h : Int) - (σ * s) % ((b.natAbs : Int) / h) * a).fdiv b) := by
  have hg : h = Nat.gcd a.natAbs b.natAbs := by rw [← I.g, Nat.gcd_zero_right]
  have h0 : (0 : Int) < h := by have := I.h0; omega
  have ga : (h : Int) ∣ a := Int.ofNat_dvd_left.mpr (by rw [hg]; exact Nat.gcd_dvd_left _ _)
  have gb : (h : Int) ∣ b := Int.ofNat_dvd_left.mpr (by rw [hg]; exact Nat.gcd_dvd_right _ _)
  have gB : (h : Int) ∣ (b.natAbs : Int) := Int.natCast_dvd_natCast.mpr (by rw [hg]; exact Nat.gcd_dvd_right _ _)
  have em : (h : Int) * ((b.natAbs : Int) / h) = b.natAbs := Int.mul_ediv_cancel' gB
  have m0 : 0 < (b.natAbs : Int) / h := by
    rcases Int.lt_or_le 0 ((b.natAbs : Int) / h) with z | z
    · exact z
    · have := Int.mul_le_mul_of_nonneg_left z (Int.le_of_lt h0)
      omega
  generalize hm : (b.natAbs : Int) / h = m at *
  have s0 := Int.emod_nonneg (σ * s) (Int.ne_of_gt m0)
  have s1 := Int.emod_lt_of_pos (σ * s) m0
  have d : b ∣ (h : Int) - (σ * s) % m * a := by
    have e1 : (h : Int) - (σ * s) % m * a = σ * (σ * h - s * a) + m * ((σ * s) / m) * a := by
      have q := Int.mul_ediv_add_emod (σ * s) m
      have : (σ * s) % m = σ * s - m * ((σ * s) / m) := by omega
      rw [this]
      rcases hσ with rfl | rfl <;> grind
    rw [e1]
    refine Int.dvd_add (Int.dvd_mul_of_dvd_right I.d1) ?_
    obtain ⟨q, ea⟩ := ga
    refine ⟨σ * ((σ * s / m) * q), ?_⟩
    rw [hb, ← em]
    generalize σ * s / m = z
    rw [ea]
    rcases hσ with rfl | rfl <;> grind
  refine ⟨m0, by omega, ?_, ga, gb, fun z => absurd z hb0, fun _ => ⟨h0, s0, by rw [hm]; exact s1⟩⟩
  have := Int.fdiv_mul_cancel_of_dvd d
  omega
theorem sem_shares : ∀ ds κ ε, S_shares ds κ ε → d_shares (endsOf κ ε) (entry ms_shares 7 ds) := by
  intro ds κ ε h
  unfold S_shares at h
  obtain ⟨a, b, rfl, ha, hb, k⟩ := h
  have k : ∀ g s t, Shares a b g s t → κ (.v (.tup [.int g, .int s, .int t])) := fun g s t h => by
    rw [h.eq] at k; exact k
  refine ⟨⟨rfl, rfl⟩, ifEq (fun h => ?_) (fun h => ?_)⟩
  · subst h
    refine ifd (fun h => ⟨rfl, rfl, k _ _ _ ?_⟩) (fun h => ⟨rfl, rfl, k _ _ _ ?_⟩)
    · exact ⟨by omega, by omega, ⟨-1, by omega⟩, ⟨0, by omega⟩, fun _ => ⟨rfl, by rw [if_pos h]⟩, fun z => absurd rfl z⟩
    · rw [decide_eq_decide.mpr Iff.rfl]
      by_cases h2 : 0 < a
      · rw [decide_eq_true h2]
        exact ⟨by omega, by simp, ⟨1, by omega⟩, ⟨0, by omega⟩, fun _ => ⟨rfl, by rw [if_neg h, if_pos h2]; rfl⟩, fun z => absurd rfl z⟩
      · rw [decide_eq_false h2]
        exact ⟨by omega, (by simp; try omega), ⟨1, by omega⟩, ⟨0, by omega⟩, fun _ => ⟨rfl, by rw [if_neg h, if_neg h2]; rfl⟩, fun z => absurd rfl z⟩
  · -- the sign of b
    obtain ⟨σ, hσ, eb⟩ : ∃ σ : Int, (σ = 1 ∨ σ = -1) ∧ b = σ * b.natAbs := by
      rcases Int.lt_or_le b 0 with z | z
      · exact ⟨-1, .inr rfl, by omega⟩
      · exact ⟨1, .inl rfl, by omega⟩
    have hb0 : 0 < b.natAbs := by omega
    obtain ⟨r, er, lr⟩ : ∃ r : Nat, a - a.fdiv b * b = σ * r ∧ r < b.natAbs := by
      have q := Int.mul_fdiv_add_fmod a b
      have e : a - a.fdiv b * b = a.fmod b := by rw [Int.mul_comm]; omega
      rcases hσ with rfl | rfl
      · have hp : 0 < b := by omega
        have h1 := Int.fmod_nonneg_of_pos a hp
        have h2 := Int.fmod_lt_of_pos a hp
        exact ⟨(a.fmod b).natAbs, by omega, by omega⟩
      · have hp : 0 < -b := by omega
        have h1 := Int.fmod_nonneg_of_pos (-a) hp
        have h2 := Int.fmod_lt_of_pos (-a) hp
        have h3 := Int.mul_fdiv_add_fmod (-a) (-b)
        rw [Int.neg_fdiv_neg, Int.neg_mul] at h3
        exact ⟨((-a).fmod (-b)).natAbs, by omega, by omega⟩
    have I : ShInv a b σ b.natAbs r 0 1 := by
      refine ⟨hb0, lr, Nat.le_refl _, ⟨1, by omega⟩, ⟨-(a.fdiv b), ?_⟩, by rw [show Int.natAbs 0 = 0 from rfl, show Int.natAbs 1 = 1 from rfl]; omega, ?_⟩
      · rw [← er]; grind
      · have e : a = a.fdiv b * b + σ * r := by omega
        have rd : ∀ d : Nat, ((d : Int) ∣ σ * r ↔ d ∣ r) := fun d => by
          rcases hσ with rfl | rfl
          · rw [Int.one_mul]; exact Int.natCast_dvd_natCast
          · rw [show (-1 : Int) * r = -r by omega, Int.dvd_neg]; exact Int.natCast_dvd_natCast
        refine Nat.dvd_antisymm (Nat.dvd_gcd ?_ (Nat.gcd_dvd_left _ _)) (Nat.dvd_gcd (Nat.gcd_dvd_right _ _) ?_)
        · refine Int.ofNat_dvd_left.mp ?_
          rw [e]
          exact Int.dvd_add (Int.dvd_mul_of_dvd_right (Int.ofNat_dvd_left.mpr (Nat.gcd_dvd_left _ _))) ((rd _).mpr (Nat.gcd_dvd_right _ _))
        · refine (rd _).mp ?_
          rw [← er]
          exact Int.dvd_sub (Int.ofNat_dvd_left.mpr (Nat.gcd_dvd_left _ _)) (Int.dvd_mul_of_dvd_right (Int.ofNat_dvd_left.mpr (Nat.gcd_dvd_right _ _)))
    have Bq : Bt 8000 (a.fdiv b) := ha.le_abs (Int.natAbs_fdiv_le_natAbs a b)
    refine ⟨b.natAbs + 2, ⟨rfl, rfl⟩, ifNe (fun _ => ?_) (fun z => absurd z h)⟩
    refine ⟨⟨h, Nat.lt_of_lt_of_le (hb.log2 (by decide)) (by decide)⟩, mulok Bq hb rfl, mulok Bq (Bt.lit (k := 1) rfl) rfl, ?_⟩
    have e0 : (1 : Int) - a.fdiv b * 0 = 1 := by omega
    show wIter b_shares_1 b_shares_2 _ (b.natAbs + 1) [.fz (.int a), .fz (.int b), .fz (.int b), .fz (.int (a - a.fdiv b * b)), .fz (.int 0), .fz (.int (1 - a.fdiv b * 0)), _]
    rw [er, e0]
    conv => arg 5; arg 2; arg 2; arg 1; rw [eb]
    refine shares_loop hσ ha hb (fun h s u t J => ?_) (b.natAbs + 1) b.natAbs r 0 1 _ (by omega) I
    obtain ⟨m0, hs⟩ := shares_fin hσ eb (by omega) J
    have Bh : Bt 8000 (h : Int) := hb.le_abs (by have := J.hb; omega)
    have hh0 := J.h0
    have ab : (if b < 0 then -b else b) = (b.natAbs : Int) := by split <;> omega
    obtain ⟨B1, B2, B3⟩ := hs.bt ha hb (by decide)
    have go : ∀ h' s' : Int, h' = h → s' = σ * s → DivOk (if b < 0 then -b else b) h' ∧ ModOk s' ((if b < 0 then -b else b).fdiv h') ∧ MulOk (s'.fmod ((if b < 0 then -b else b).fdiv h')) a ∧ DivOk (h' - s'.fmod ((if b < 0 then -b else b).fdiv h') * a) b ∧ true = true ∧
        true = true ∧ κ (.v (.tup [.int h', .int (s'.fmod ((if b < 0 then -b else b).fdiv h')), .int ((h' - s'.fmod ((if b < 0 then -b else b).fdiv h') * a).fdiv b)])) := fun h' s' e1 e => by
      rw [e, e1, ab, Int.fdiv_eq_ediv_of_nonneg _ (by omega : (0 : Int) ≤ h), Int.fmod_eq_emod_of_nonneg _ (Int.le_of_lt m0)]
      exact ⟨⟨by omega, Nat.lt_of_lt_of_le (Bh.log2 (by decide)) (by decide)⟩, Int.ne_of_gt m0, mulok B2 ha rfl, ⟨‹b ≠ 0›, Nat.lt_of_lt_of_le (hb.log2 (by decide)) (by decide)⟩, rfl, rfl, k _ _ _ hs⟩
    refine ifd (fun hn => ?_) (fun hn => ?_)
    · have hσ1 : σ = -1 := by rcases hσ with rfl | rfl <;> omega
      exact go (-(σ * (h : Int))) (-s) (by rw [hσ1]; omega) (by rw [hσ1]; omega)
    · have hσ1 : σ = 1 := by rcases hσ with rfl | rfl <;> omega
      exact go (σ * (h : Int)) s (by rw [hσ1]; omega) (by rw [hσ1]; omega)
end Py
local macro_rules | `(tactic| walk_at "call") => `(tactic| (refine Py.shares_go ?_ ?_ ?_; (focus (walk_at "btl")); (focus (walk_at "btl"))))
namespace Py
open PySem PySem.Spec PyProof.Rows L2 DL Mov
@[irreducible] def S_is_whole : Fsp := fun ds κ _ => ∃ d, ds = [d] ∧ κ (.v (.bl (isInt d)))
theorem is_whole_go {d : Dat} {κ : Rv → Prop} {ε : Str → Prop} (k : κ (.v (.bl (isInt d)))) : S_is_whole [d] κ ε := by
  unfold S_is_whole; exact ⟨d, rfl, k⟩
theorem sem_is_whole : ∀ ds κ ε, S_is_whole ds κ ε → d_is_whole (endsOf κ ε) (entry ms_is_whole 1 ds) := by
  intro ds κ ε h
  unfold S_is_whole at h
  obtain ⟨d, rfl, k⟩ := h
  cases d <;> exact ⟨rfl, k⟩
end Py
local macro_rules | `(tactic| walk_at "call") => `(tactic| refine Py.is_whole_go ?_)
namespace Py
open PySem PySem.Spec PyProof.Rows L2 DL Mov
@[irreducible] def S_is_move : Fsp := fun ds κ _ => ∃ d, ds = [d] ∧ (∀ m, d = mv m → BM 20000 m) ∧ κ (.v (.bl (moveB d)))
theorem is_move_go {d : Dat} {κ : Rv → Prop} {ε : Str → Prop} (h : ∀ m, d = mv m → BM 20000 m) (k : κ (.v (.bl (moveB d)))) : S_is_move [d] κ ε := by
  unfold S_is_move; exact ⟨d, rfl, h, k⟩
theorem int_of {d : Dat} (h : Mov.isInt d = true) : ∃ i, d = .int i := by
  unfold Mov.isInt at h; split at h
  · exact ⟨_, rfl⟩
  · exact nomatch h
theorem six_ints : ∀ (ps : List Dat), ps.length = 6 → (∀ p ∈ ps, Mov.isInt p = true) → sixB (.tup ps) = true
  | [a, b, c, d, e, f], _, h => by
    obtain ⟨_, rfl⟩ := int_of (h a (by simp))
    obtain ⟨_, rfl⟩ := int_of (h b (by simp))
    obtain ⟨_, rfl⟩ := int_of (h c (by simp))
    obtain ⟨_, rfl⟩ := int_of (h d (by simp))
    obtain ⟨_, rfl⟩ := int_of (h e (by simp))
    obtain ⟨_, rfl⟩ := int_of (h f (by simp))
    rfl
theorem not_six {ps : List Dat} {p : Dat} (hp : p ∈ ps) (h : Mov.isInt p = false) : sixB (.tup ps) = false := by
  unfold sixB
  split
  · rename_i e
    injection e with e
    subst e
    simp only [List.mem_cons, List.not_mem_nil, or_false] at hp
    rcases hp with rfl | rfl | rfl | rfl | rfl | rfl <;> exact nomatch h
  · rfl
theorem sem_is_move : ∀ ds κ ε, S_is_move ds κ ε → d_is_move S_is_whole (endsOf κ ε) (entry ms_is_move 2 ds) := by
  intro ds κ ε h
  unfold S_is_move at h
  obtain ⟨d, rfl, hb, k⟩ := h
  cases d with
  | tup ps =>
    refine ⟨⟨rfl, rfl⟩, ifNe (fun hl => ?_) fun hl => ?_⟩
    · have e : moveB (.tup ps) = false := by
        have : sixB (.tup ps) = false := by
          unfold sixB
          split
          · rename_i e; injection e with e; subst e; exact absurd rfl hl
          · rfl
        unfold moveB; rw [this]; rfl
      rw [e] at k
      exact ⟨rfl, k⟩
    · have hl : ps.length = 6 := by omega
      refine ⟨rfl, ?_⟩
      refine for_ind (fun i ρ => (∃ s1, ρ = [.fz (.tup ps), s1]) ∧ ∀ j p, j < i → ps[j]? = some p → Mov.isInt p = true) ⟨⟨_, rfl⟩, fun j p h => absurd h (Nat.not_lt_zero _)⟩ (fun i p ρ N hp h hN => ?_) (fun ρ h => ?_)
      · obtain ⟨⟨s1, rfl⟩, ha⟩ := h
        walk_at "st"
        refine ifNot (fun h0 => ?_) fun h1 => ?_
        · have e : moveB (.tup ps) = false := by unfold moveB; rw [not_six (List.mem_of_getElem? hp) h0]; rfl
          rw [e] at k
          exact ⟨rfl, k⟩
        · refine hN _ ⟨⟨_, rfl⟩, fun j q hj hq => ?_⟩
          by_cases e : j = i
          · subst e; rw [hp] at hq; cases hq; exact h1
          · exact ha j q (by omega) hq
      · obtain ⟨⟨s1, rfl⟩, ha⟩ := h
        have h6 := six_ints ps hl fun p hm => by
          obtain ⟨j, hj⟩ := List.getElem?_of_mem hm
          have : j < ps.length := by
            by_cases z : j < ps.length
            · exact z
            · rw [List.getElem?_eq_none (by omega)] at hj; exact nomatch hj
          exact ha j p this hj
        obtain ⟨m, hm⟩ := six_of h6
        have bm := hb m hm
        rw [hm, moveB_mv] at k
        injection hm with hm
        subst hm
        obtain ⟨ba, bb, bc, bd, be, bf⟩ := bm
        refine onS_some rfl (onS_some rfl ?_)
        walk_at "st"
        refine onS_some rfl (onS_some rfl ?_)
        walk_at "st"
        have e : eqD (.int (if m.a * m.d - m.b * m.c < 0 then -(m.a * m.d - m.b * m.c) else m.a * m.d - m.b * m.c)) (.int 1) = decide (IsMv m) := by
          rw [eqD_int]
          have : ((if m.a * m.d - m.b * m.c < 0 then -(m.a * m.d - m.b * m.c) else m.a * m.d - m.b * m.c) == 1) = decide (m.a * m.d - m.b * m.c = 1 ∨ m.a * m.d - m.b * m.c = -1) := by
            rw [Bool.eq_iff_iff, beq_iff_eq, decide_eq_true_iff]
            split <;> omega
          rw [this]; rfl
        rw [← e] at k
        exact k
  | _ => exact ⟨rfl, k⟩
end Py
local macro_rules | `(tactic| walk_at "call") => `(tactic| refine Py.is_move_go ?_ ?_)
namespace Py
open PySem PySem.Spec PyProof.Rows L2 DL Mov
@[irreducible] def S_need_move : Fsp := fun ds κ ε => ∃ d, ds = [d] ∧ (∀ m, d = mv m → BM 20000 m) ∧ (moveB d = false → ε "NoMove") ∧ (moveB d = true → κ (.v .non))
theorem need_go {m : Mv} {κ : Rv → Prop} {ε : Str → Prop} (hm : IsMv m) (hb : BM 20000 m) (k : κ (.v .non)) : S_need_move [mv m] κ ε := by
  unfold S_need_move
  refine ⟨mv m, rfl, fun n h => ?_, fun h => ?_, fun _ => k⟩
  · have : n = m := by obtain ⟨_, _, _, _, _, _⟩ := n; obtain ⟨_, _, _, _, _, _⟩ := m; unfold mv at h; simp only [Dat.tup.injEq, List.cons.injEq, Dat.int.injEq] at h; simp only [Mv.mk.injEq]; obtain ⟨a, b, c, d, e, f, _⟩ := h; exact ⟨a.symm, b.symm, c.symm, d.symm, e.symm, f.symm⟩
    rw [this]; exact hb
  · rw [moveB_mv, decide_eq_true hm] at h; exact nomatch h
theorem need_no {d : Dat} {κ : Rv → Prop} {ε : Str → Prop} (h : moveB d = false) (hb : ∀ m, d = mv m → BM 20000 m) (k : ε "NoMove") : S_need_move [d] κ ε := by
  unfold S_need_move
  exact ⟨d, rfl, hb, fun _ => k, fun h2 => by rw [h] at h2; exact nomatch h2⟩
theorem sem_need_move : ∀ ds κ ε, S_need_move ds κ ε → d_need_move S_is_move (endsOf κ ε) (entry ms_need_move 1 ds) := by
  intro ds κ ε h
  unfold S_need_move at h
  obtain ⟨d, rfl, hb, h1, h2⟩ := h
  cases d <;> exact is_move_go hb (ifNot h1 h2)
end Py
namespace Py
open PySem PySem.Spec PyProof.Rows L2 DL Mov
@[irreducible] def S_moved : Fsp := fun ds κ ε => ∃ p d, ds = [pt p, d] ∧ BP 20000 p ∧ (∀ m, d = mv m → BM 20000 m) ∧ (moveB d = false → ε "NoMove") ∧ (∀ m, d = mv m → IsMv m → κ (.v (pt (act m p))))
theorem mv_inj {m n : Mv} (h : mv n = mv m) : n = m := by
  obtain ⟨_, _, _, _, _, _⟩ := n
  obtain ⟨_, _, _, _, _, _⟩ := m
  unfold mv at h
  simp only [Dat.tup.injEq, List.cons.injEq, Dat.int.injEq] at h
  simp only [Mv.mk.injEq]
  obtain ⟨a, b, c, d, e, f, _⟩ := h
  exact ⟨a, b, c, d, e, f⟩
theorem moved_go {m : Mv} {p : Pt} {κ : Rv → Prop} {ε : Str → Prop} (hm : IsMv m) (hp : BP 20000 p) (hb : BM 20000 m) (k : κ (.v (pt (act m p)))) : S_moved [pt p, mv m] κ ε := by
  unfold S_moved
  exact ⟨p, _, rfl, hp, fun n h => by rw [← mv_inj h]; exact hb, (fun h => by rw [moveB_mv, decide_eq_true hm] at h; exact (nomatch h)), fun n h _ => by rw [← mv_inj h]; exact k⟩
theorem moved_no {d : Dat} {p : Pt} {κ : Rv → Prop} {ε : Str → Prop} (h : moveB d = false) (hp : BP 20000 p) (hb : ∀ m, d = mv m → BM 20000 m) (k : ε "NoMove") : S_moved [pt p, d] κ ε := by
  unfold S_moved
  exact ⟨p, d, rfl, hp, hb, fun _ => k, fun m e hm => by rw [e, moveB_mv, decide_eq_true hm] at h; exact nomatch h⟩
theorem move_of {d : Dat} (h : moveB d = true) : ∃ m, d = mv m ∧ IsMv m := by
  unfold moveB at h
  rw [Bool.and_eq_true] at h
  obtain ⟨m, rfl⟩ := six_of h.1
  have h2 := moveB_mv m
  unfold moveB at h2
  rw [h.1, h.2] at h2
  exact ⟨m, rfl, of_decide_eq_true h2.symm⟩
theorem sem_moved : ∀ ds κ ε, S_moved ds κ ε → d_moved S_need_move (endsOf κ ε) (entry ms_moved 8 ds) := by
  intro ds κ ε h
  unfold S_moved at h
  obtain ⟨p, d, rfl, hp, hb, h1, h2⟩ := h
  by_cases hm : moveB d = true
  · obtain ⟨m, rfl, im⟩ := move_of hm
    have bm := hb m rfl
    have k := h2 m rfl im
    obtain ⟨ba, bb, bc, bd, be, bf⟩ := bm
    have bx := hp.x
    have by' := hp.y
    refine need_go im (hb m rfl) ?_
    refine ⟨rfl, ?_⟩
    refine onS_some rfl ?_
    walk_at "st"
    refine onS_some rfl ?_
    walk_at "st"
    refine onS_some rfl ?_
    walk_at "st"
    refine onS_some rfl ?_
    walk_at "st"
    exact k
  · have hm : moveB d = false := by cases h : moveB d <;> simp_all
    cases d <;> exact need_no hm hb (h1 hm)
end Py
namespace Py
open PySem PySem.Spec PyProof.Rows L2 DL Mov
@[irreducible] def S_behind : Fsp := fun ds κ ε => ∃ d1 d2, ds = [d1, d2] ∧ (∀ m, d1 = mv m → BM 9000 m) ∧ (∀ m, d2 = mv m → BM 9000 m) ∧ (moveB d1 = false → ε "NoMove") ∧ (moveB d1 = true → moveB d2 = false → ε "NoMove") ∧ (∀ m n, d1 = mv m → d2 = mv n → IsMv m → IsMv n → κ (.v (mv (thn m n))))
theorem behind_go {m n : Mv} {κ : Rv → Prop} {ε : Str → Prop} (hm : IsMv m) (hn : IsMv n) (bm : BM 9000 m) (bn : BM 9000 n) (k : κ (.v (mv (thn m n)))) : S_behind [mv m, mv n] κ ε := by
  unfold S_behind
  refine ⟨_, _, rfl, fun a h => by rw [← mv_inj h]; exact bm, fun a h => by rw [← mv_inj h]; exact bn, fun h => ?_, fun _ h => ?_, fun a b ha hb _ _ => by rw [← mv_inj ha, ← mv_inj hb]; exact k⟩
  · rw [moveB_mv, decide_eq_true hm] at h; exact nomatch h
  · rw [moveB_mv, decide_eq_true hn] at h; exact nomatch h
theorem sem_behind : ∀ ds κ ε, S_behind ds κ ε → d_behind S_need_move S_moved (endsOf κ ε) (entry ms_behind 6 ds) := by
  intro ds κ ε h
  unfold S_behind at h
  obtain ⟨d1, d2, rfl, hb1, hb2, h1, h2, k⟩ := h
  by_cases hm : moveB d1 = true
  · obtain ⟨m, rfl, im⟩ := move_of hm
    have bm := hb1 m rfl
    have bm2 := bm.mono (l := 20000) (by decide)
    refine need_go im bm2 ?_
    by_cases hn : moveB d2 = true
    · obtain ⟨n, rfl, n2⟩ := move_of hn
      have bn := hb2 n rfl
      have bn2 := bn.mono (l := 20000) (by decide)
      have k := k m n rfl rfl im n2
      have b0 : BP 1 ((0, 0) : Pt) := ⟨Bt.lit rfl, Bt.lit rfl⟩
      have b1 : BP 1 ((1, 0) : Pt) := ⟨Bt.lit rfl, Bt.lit rfl⟩
      have b2 : BP 1 ((0, 1) : Pt) := ⟨Bt.lit rfl, Bt.lit rfl⟩
      refine need_go n2 bn2 ?_
      refine ⟨rfl, ?_⟩
      refine moved_go (p := (0, 0)) im (b0.mono (by decide)) bm2 ?_
      refine moved_go (p := act m (0, 0)) n2 ((act_bp bm b0).mono (by decide)) bn2 ?_
      refine ⟨rfl, ?_⟩
      refine moved_go (p := (1, 0)) im (b1.mono (by decide)) bm2 ?_
      refine moved_go (p := act m (1, 0)) n2 ((act_bp bm b1).mono (by decide)) bn2 ?_
      refine ⟨rfl, ?_⟩
      refine moved_go (p := (0, 1)) im (b2.mono (by decide)) bm2 ?_
      refine moved_go (p := act m (0, 1)) n2 ((act_bp bm b2).mono (by decide)) bn2 ?_
      rw [thn_pts] at k
      refine onS_some rfl (onS_some rfl ?_)
      refine onS_some rfl (onS_some rfl ?_)
      refine onS_some rfl (onS_some rfl ?_)
      refine onS_some rfl (onS_some rfl ?_)
      walk_at "st"
      exact k
    · have hn : moveB d2 = false := by cases h : moveB d2 <;> simp_all
      cases d2 <;> exact need_no hn (fun m h => (hb2 m h).mono (by decide)) (h2 hm hn)
  · have hm : moveB d1 = false := by cases h : moveB d1 <;> simp_all
    cases d1 <;> exact need_no hm (fun m h => (hb1 m h).mono (by decide)) (h1 hm)
end Py
namespace Py
open PySem PySem.Spec PyProof.Rows L2 DL Mov
@[irreducible] def S_way_back : Fsp := fun ds κ ε => ∃ d, ds = [d] ∧ (∀ m, d = mv m → BM 20000 m) ∧ (moveB d = false → ε "NoMove") ∧ (∀ m, d = mv m → IsMv m → κ (.v (mv (back m))))
theorem way_back_go {m : Mv} {κ : Rv → Prop} {ε : Str → Prop} (hm : IsMv m) (hb : BM 20000 m) (k : κ (.v (mv (back m)))) : S_way_back [mv m] κ ε := by
  unfold S_way_back
  exact ⟨_, rfl, fun n h => by rw [← mv_inj h]; exact hb, (fun h => by rw [moveB_mv, decide_eq_true hm] at h; exact (nomatch h)), fun n h _ => by rw [← mv_inj h]; exact k⟩
theorem sem_way_back : ∀ ds κ ε, S_way_back ds κ ε → d_way_back S_need_move (endsOf κ ε) (entry ms_way_back 8 ds) := by
  intro ds κ ε h
  unfold S_way_back at h
  obtain ⟨d, rfl, hb, h1, k⟩ := h
  by_cases hm : moveB d = true
  · obtain ⟨m, rfl, im⟩ := move_of hm
    have bm := hb m rfl
    have k := k m rfl im
    obtain ⟨ba, bb, bc, bd, be, bf⟩ := bm
    refine need_go im (hb m rfl) ?_
    refine ⟨rfl, ?_⟩
    walk_at "st"
    exact k
  · have hm : moveB d = false := by cases h : moveB d <;> simp_all
    cases d <;> exact need_no hm hb (h1 hm)
end Py
namespace Py
open PySem PySem.Spec PyProof.Rows L2 DL Mov
@[irreducible] def S_steps : Fsp := fun ds κ _ => ∃ p q : Pt, ds = [pt p, pt q] ∧ BP 7000 p ∧ BP 7000 q ∧ κ (.v (.int (gd p q)))
theorem steps_go {p q : Pt} {κ : Rv → Prop} {ε : Str → Prop} (hp : BP 7000 p) (hq : BP 7000 q) (k : κ (.v (.int (gd p q)))) : S_steps [pt p, pt q] κ ε := by
  unfold S_steps; exact ⟨p, q, rfl, hp, hq, k⟩
theorem sem_steps : ∀ ds κ ε, S_steps ds κ ε → d_steps S_shares (endsOf κ ε) (entry ms_steps 2 ds) := by
  intro ds κ ε h
  unfold S_steps at h
  obtain ⟨p, q, rfl, hp, hq, k⟩ := h
  have b1 := (hq.x.sub hp.x).mono (l := 8000) (by omega)
  have b2 := (hq.y.sub hp.y).mono (l := 8000) (by omega)
  refine onS_some rfl (onS_some rfl (onS_some rfl (onS_some rfl ?_)))
  refine shares_go b1 b2 ?_
  refine onS_some rfl ⟨rfl, ?_⟩
  rw [← sh_gd] at k
  exact k
end Py
namespace Py
open PySem PySem.Spec PyProof.Rows L2 DL Mov
@[irreducible] def S_level : Fsp := fun ds κ ε => ∃ p q : Pt, ds = [pt p, pt q] ∧ BP 7000 p ∧ BP 7000 q ∧ (p = q → ε "NoMove") ∧ (p ≠ q → κ (.v (mv (lv p q))))
theorem level_go {p q : Pt} {κ : Rv → Prop} {ε : Str → Prop} (hp : BP 7000 p) (hq : BP 7000 q) (h : p ≠ q) (k : κ (.v (mv (lv p q)))) : S_level [pt p, pt q] κ ε := by
  unfold S_level; exact ⟨p, q, rfl, hp, hq, fun e => absurd e h, fun _ => k⟩
theorem level_no {p : Pt} {κ : Rv → Prop} {ε : Str → Prop} (hp : BP 7000 p) (k : ε "NoMove") : S_level [pt p, pt p] κ ε := by
  unfold S_level; exact ⟨p, p, rfl, hp, hp, fun _ => k, fun h => absurd rfl h⟩
theorem sem_level : ∀ ds κ ε, S_level ds κ ε → d_level S_steps S_shares (endsOf κ ε) (entry ms_level 8 ds) := by
  intro ds κ ε h
  unfold S_level at h
  obtain ⟨p, q, rfl, hp, hq, h1, h2⟩ := h
  refine ⟨⟨rfl, rfl⟩, ifPt h1 fun h => ?_⟩
  have k := h2 h
  refine steps_go hp hq ?_
  have g0 := gd_pos h
  have bg := gd_bt hp hq h
  have px := hp.x
  have py := hp.y
  have b1 := (hq.x.sub px).mono (l := 7001) (by omega) |>.ediv (m := gd p q)
  have b2 := (hq.y.sub py).mono (l := 7001) (by omega) |>.ediv (m := gd p q)
  refine onS_some rfl (onS_some rfl ⟨divp g0 bg rfl, ?_⟩)
  refine onS_some rfl (onS_some rfl ⟨divp g0 bg rfl, ?_⟩)
  refine shares_go (b1.mono (by decide)) (b2.mono (by decide)) ?_
  obtain ⟨bg, bs, bt⟩ := (Num.sh_ok ((q.1 - p.1) / gd p q) ((q.2 - p.2) / gd p q)).bt b1 b2 (by omega)
  refine ⟨rfl, ?_⟩
  refine onS_some rfl ⟨mulok bs.neg px rfl, onS_some rfl ⟨mulok bt py rfl, ?_⟩⟩
  refine onS_some rfl ⟨mulok b2 px rfl, onS_some rfl ⟨mulok b1 py rfl, ?_⟩⟩
  rw [lv_def] at k
  exact ⟨rfl, rfl, k⟩
end Py
namespace Py
open PySem PySem.Spec PyProof.Rows L2 DL Hull
@[irreducible] def S_turn : Fsp := fun ds κ _ => ∃ P Q R : Pt, ds = [pt P, pt Q, pt R] ∧ BP 100000 P ∧ BP 100000 Q ∧ BP 100000 R ∧ κ (.v (.int (turn P Q R)))
theorem turn_go {P Q R : Pt} {κ : Rv → Prop} {ε : Str → Prop} (hP : BP 100000 P) (hQ : BP 100000 Q) (hR : BP 100000 R) (k : κ (.v (.int (turn P Q R)))) : S_turn [pt P, pt Q, pt R] κ ε := by
  unfold S_turn; exact ⟨P, Q, R, rfl, hP, hQ, hR, k⟩
theorem sem_turn : ∀ ds κ ε, S_turn ds κ ε → d_turn (endsOf κ ε) (entry ms_turn 5 ds) := by
  intro ds κ ε h
  unfold S_turn at h
  obtain ⟨P, Q, R, rfl, hP, hQ, hR, k⟩ := h
  unfold turn at k
  refine onS_some rfl (onS_some rfl (onS_some rfl (onS_some rfl ⟨mulok (hQ.x.sub hP.x) (hR.y.sub hP.y) rfl, ?_⟩)))
  refine onS_some rfl (onS_some rfl (onS_some rfl (onS_some rfl ⟨mulok (hQ.y.sub hP.y) (hR.x.sub hP.x) rfl, ?_⟩)))
  refine ifd (fun h => ?_) (fun h => ?_)
  · rw [if_pos h] at k
    exact ⟨rfl, k⟩
  · rw [if_neg h] at k
    refine ifd (fun h2 => ?_) (fun h2 => ?_)
    · rw [if_pos h2] at k
      exact ⟨rfl, k⟩
    · rw [if_neg h2] at k
      exact ⟨rfl, k⟩
end Py
namespace Py
open PySem PySem.Spec PyProof.Rows L2 DL Hull
inductive S_half_round : List Dat → (Rv → Prop) → (Str → Prop) → Prop
  | mk {κ : Rv → Prop} {ε : Str → Prop} (ps : List Pt) (hl : ps.length ≤ 50000) (hb : ∀ p ∈ ps, BP 100000 p) (k : κ (.n ((half ps).map pt))) : S_half_round [.lst (ps.map pt)] κ ε
theorem half_round_go {ds : List Dat} {κ : Rv → Prop} {ε : Str → Prop} (ps : List Pt) (e : ds = ps.map pt) (hl : ps.length ≤ 50000) (hb : ∀ p ∈ ps, BP 100000 p) (k : κ (.n ((half ps).map pt))) : S_half_round [.lst ds] κ ε := by rw [e]; exact .mk ps hl hb k
theorem sem_half_round : ∀ ds κ ε, S_half_round ds κ ε → d_half_round S_turn (endsOf κ ε) (entry ms_half_round 3 ds) := by
  intro ds κ ε h
  obtain ⟨ps, hl, hb, k⟩ := h
  refine ⟨rfl, ?_⟩
  refine ⟨rfl, ?_⟩
  refine for_map (f := pt) (xs := ps) (fun i ρ => ∃ s2, ρ = [.br (ps.map pt), .ow ((stk (ps.take i)).reverse.map pt), s2] ∧ (∀ p ∈ stk (ps.take i), BP 100000 p) ∧ (stk (ps.take i)).length ≤ i) ⟨_, rfl, fun p hp => absurd hp (by simp [stk]), Nat.le_refl _⟩ (fun i p ρ N hp h hN => ?_) (fun ρ h => ?_)
  · obtain ⟨s2, rfl, hs, hsl⟩ := h
    have hi : i < ps.length := by
      by_cases z : i < ps.length
      · exact z
      · rw [List.getElem?_eq_none (by omega)] at hp; exact nomatch hp
    have bp := hb p (List.mem_of_getElem? hp)
    have ht := stk_take hp
    rw [ht] at hN
    generalize stk (ps.take i) = s at *
    refine while_ind (fun n ρ => ∃ r : List Pt, ρ = [.br (ps.map pt), .ow (r.reverse.map pt), .fz (pt p)] ∧ n = r.length ∧ popd r p = popd s p ∧ (∀ q ∈ r, BP 100000 q) ∧ r.length ≤ i) s.length ⟨s, rfl, rfl, rfl, hs, hsl⟩ ?_
    rintro n _ R ⟨r, rfl, rfl, e, hr, hrl⟩ hR
    have fin : ∀ r : List Pt, popd r p = r → popd r p = popd s p → (∀ q ∈ r, BP 100000 q) → r.length ≤ i → (sApp 1 (dVar 2)) { (endsOf κ ε) with nx := N, ct := N, bk := t_half_round_2 S_turn (endsOf κ ε) } [.br (ps.map pt), .ow (r.reverse.map pt), .fz (pt p)] := by
      intro r e1 e2 hr hrl
      refine ⟨szm (by rw [List.length_reverse]; omega), ?_⟩
      have ee : push s p = p :: r := by unfold push; rw [← e2, e1]
      refine hN _ ⟨.fz (pt p), ?_, ?_, ?_⟩
      · rw [ee, ← push_rest]; rfl
      · rw [ee]; intro q hq
        rcases List.mem_cons.mp hq with rfl | hq
        · exact bp
        · exact hr q hq
      · rw [ee, List.length_cons]; omega
    match r, e, hr, hrl, hR with
    | [], e, hr, hrl, hR => exact fin [] rfl e hr hrl
    | [a], e, hr, hrl, hR => exact fin [a] rfl e hr hrl
    | b :: a :: r, e, hr, hrl, hR =>
      refine ifd (fun _ => ?_) fun h => absurd (show ((((b :: a :: r).reverse.map pt).length : Nat) : Int) > 1 by simp; omega) h
      refine onS_some at_next ?_
      refine onS_some at_top ?_
      refine turn_go (hr a (by simp)) (hr b (by simp)) bp ?_
      refine ifd (fun h => ?_) fun h => ?_
      · have hsp : span a b p ≤ 0 := turn_le.mp (by omega)
        refine onS_some pop_at ?_
        refine hR (a :: r).length _ (by simp) ⟨a :: r, by show [_, Sl.ow ((((b :: a :: r).reverse.map pt)).dropLast), _] = _; rw [pop_rest], rfl, ?_, fun q hq => hr q (by simp [hq]), by simp only [List.length_cons] at *; omega⟩
        rw [← e]
        conv => rhs; unfold popd
        rw [if_pos hsp]
      · have hsp : ¬ span a b p ≤ 0 := fun z => h (by have := turn_le.mpr z; omega)
        refine fin _ ?_ e hr hrl
        unfold popd; rw [if_neg hsp]
  · obtain ⟨s2, rfl, hs, hsl⟩ := h
    rw [List.take_length]
    exact k
end Py
namespace Py
open PySem PySem.Spec PyProof.Rows L2 DL Hull
inductive S_field : List Dat → (Rv → Prop) → (Str → Prop) → Prop
  | mk {κ : Rv → Prop} {ε : Str → Prop} (ps : List Pt) (h0 : ps ≠ []) (hl : ps.length < 64) (hb : ∀ p ∈ ps, BP 100000 p) (k : κ (.n ((hull ps).map pt))) : S_field [.lst (ps.map pt)] κ ε
  | no {κ : Rv → Prop} {ε : Str → Prop} (k : ε "NoField") : S_field [.lst []] κ ε
theorem field_go {ds : List Dat} {κ : Rv → Prop} {ε : Str → Prop} (ps : List Pt) (e : ds = ps.map pt) (h0 : ps ≠ []) (hl : ps.length < 64) (hb : ∀ p ∈ ps, BP 100000 p) (k : κ (.n ((hull ps).map pt))) : S_field [.lst ds] κ ε := by rw [e]; exact .mk ps h0 hl hb k
theorem sem_field : ∀ ds κ ε, S_field ds κ ε → d_field S_half_round (endsOf κ ε) (entry ms_field 2 ds) := by
  intro ds κ ε h
  cases h with
  | no k =>
    refine ⟨⟨rfl, rfl⟩, ?_⟩
    exact k
  | mk ps h0 hl hb k =>
    refine ⟨⟨rfl, rfl⟩, ifEq (fun h => absurd (List.length_eq_zero_iff.mp (by have h : ((ps.map pt).length : Int) = 0 := h; rw [List.length_map] at h; omega)) h0) fun _ => ?_⟩
    refine onS_some (ptsD_map ps) ⟨hl, fun L hp hm => ?_⟩
    have eL := srt_uniq hp hm
    subst eL
    have hs : ∀ x ∈ srt ps, BP 100000 x := fun x hx => hb x ((mem_srt ps x).mp hx)
    have hsl := srt_len ps
    refine ⟨⟨rfl, rfl⟩, ifEq (fun h => ?_) fun h => ?_⟩
    · have h : (srt ps).length = 1 := by have h : (((srt ps).map pt).length : Int) = 1 := h; rw [List.length_map] at h; omega
      unfold hull at k
      rw [if_pos h] at k
      exact k
    · have h : ¬ (srt ps).length = 1 := fun z => h (by show (((srt ps).map pt).length : Int) = 1; rw [List.length_map, z]; rfl)
      unfold hull at k
      rw [if_neg h] at k
      refine .mk (srt ps) (by omega) hs ?_
      refine half_round_go (srt ps).reverse (List.map_reverse ..).symm (by rw [List.length_reverse]; omega) (fun x hx => hs x (List.mem_reverse.mp hx)) ?_
      have h1 := (half_all hs).2
      have h2 := (half_all (P := BP 100000) (ps := (srt ps).reverse) fun x hx => hs x (List.mem_reverse.mp hx)).2
      rw [List.length_reverse] at h2
      show (DL.cutD ((half (srt ps)).map pt) none (some (-1))).length + (DL.cutD ((half (srt ps).reverse).map pt) none (some (-1))).length ≤ sizeLine ∧ true = true ∧ κ (.n (DL.cutD ((half (srt ps)).map pt) none (some (-1)) ++ DL.cutD ((half (srt ps).reverse).map pt) none (some (-1))))
      rw [cut_last, cut_last, ← List.map_append]
      refine ⟨Nat.le_of_lt (sz_ok ?_), rfl, k⟩
      rw [List.length_map, List.length_map, List.length_dropLast, List.length_dropLast]
      omega
end Py
namespace Py
open PySem PySem.Spec PyProof.Rows L2 DL Hull Mov
inductive S_field_moved : List Dat → (Rv → Prop) → (Str → Prop) → Prop
  | mk {κ : Rv → Prop} {ε : Str → Prop} (ps : List Pt) (m : Mv) (h0 : ps ≠ []) (hl : ps.length < 64) (hb : ∀ p ∈ ps, BP 20000 p) (im : IsMv m) (bm : BM 20000 m) (k : κ (.n ((hull (ps.map (act m))).map pt))) : S_field_moved [.lst (ps.map pt), mv m] κ ε
theorem sem_field_moved : ∀ ds κ ε, S_field_moved ds κ ε → d_field_moved S_field S_moved (endsOf κ ε) (entry ms_field_moved 3 ds) := by
  intro ds κ ε h
  obtain ⟨ps, m, h0, hl, hb, im, bm, k⟩ := h
  refine ⟨rfl, ?_⟩
  refine lc_map (xs := ps) (f := pt) (h := fun p => pt (act m p)) (by omega) (fun p N hx hN => ?_) ?_
  · exact moved_go im (hb p hx) bm hN
  · refine field_go (ps.map (act m)) (by rw [List.map_map]; rfl) (by simpa using h0) (by rw [List.length_map]; exact hl) (fun q hq => ?_) ⟨rfl, k⟩
    obtain ⟨p, hp, rfl⟩ := List.mem_map.mp hq
    exact (act_bp bm (hb p hp)).mono (by decide)
end Py
namespace Py
open PySem PySem.Spec PyProof.Rows L2 DL Mov Hull Frm
inductive S_stand_at : List Dat → (Rv → Prop) → (Str → Prop) → Prop
  | mk {κ : Rv → Prop} {ε : Str → Prop} (h n f : Pt) (j : Nat) (hj : j ≤ 1300) (bh : BP j h) (bn : BP j n) (bf : BP j f) (ne : h ≠ n) (sp : span h n f ≠ 0) (k : κ (.v (mv (Frm.st h n f)))) : S_stand_at [pt h, pt n, pt f] κ ε
theorem sem_stand_at : ∀ ds κ ε, S_stand_at ds κ ε → d_stand_at S_level S_moved (endsOf κ ε) (entry ms_stand_at 12 ds) := by
  intro ds κ ε hS
  obtain ⟨h, n, f, j, hj, bh, bn, bf, ne, sp, k⟩ := hS
  show d_stand_at _ _ _ [.fz (pt h), .fz (pt n), .fz (pt f), .un, .un, .un, .un, .un, .un, .un, .un, .un]
  refine level_go (bh.mono (by omega)) (bn.mono (by omega)) ne ?_
  have bl := lv_bm bh bn ne
  have bF := act_bp bl bf
  obtain ⟨s, t, L, _, _⟩ := lv_ok ne
  have im : IsMv (lv h n) := .inl L.mv
  have spl := span_lv (R := f) ne
  have f0 : (act (lv h n) f).2 ≠ 0 := fun z => sp (by rw [spl, z, Int.mul_zero])
  unfold Frm.st at k
  refine ⟨rfl, ?_⟩
  walk_at "nz"
  refine ⟨rfl, ?_⟩
  refine moved_go (m := lv h n) im (bf.mono (by omega)) (bl.mono (by omega)) ?_
  refine ⟨rfl, ?_⟩
  show t_stand_at_2 S_level S_moved (endsOf κ ε) [.fz (pt h), .fz (pt n), .fz (pt f), .fz (.int (lv h n).a), .fz (.int (lv h n).b), .fz (.int (lv h n).c), .fz (.int (lv h n).d), .fz (.int (lv h n).e), .fz (.int (lv h n).f), .fz (.int (act (lv h n) f).1), .fz (.int (act (lv h n) f).2), .un]
  have bx : Bt (3 * j + 6) (act (lv h n) f).1 := bF.x.mono (by omega)
  have by' : Bt (3 * j + 6) (act (lv h n) f).2 := bF.y.mono (by omega)
  generalize (act (lv h n) f).1 = x at *
  generalize (act (lv h n) f).2 = y at *
  generalize lv h n = m at *
  have t3 : ∀ (c d f' y' : Int), Bt (j + j + 4) c → Bt (j + j + 4) d → Bt (j + j + 4) f' → 0 < y' → Bt (3 * j + 6) y' → κ (.v (mv ⟨m.a - x / y' * c, m.b - x / y' * d, c, d, m.e - x / y' * f', f'⟩)) → t_stand_at_3 S_level S_moved (endsOf κ ε) [.fz (pt h), .fz (pt n), .fz (pt f), .fz (.int m.a), .fz (.int m.b), .fz (.int c), .fz (.int d), .fz (.int m.e), .fz (.int f'), .fz (.int x), .fz (.int y'), .un] := by
    intro c d f' y' bc bd bf' y0 byy kk
    have by9 : Bt 9000 y' := byy.mono (by omega)
    have bz : Bt 9000 (x / y') := bx.ediv.mono (by omega)
    have c9 : Bt 9000 c := bc.mono (by omega)
    have d9 : Bt 9000 d := bd.mono (by omega)
    have f9 : Bt 9000 f' := bf'.mono (by omega)
    exact ⟨⟨y0, by9.log2 (by decide)⟩, mulok bz c9 rfl, mulok bz d9 rfl, mulok bz f9 rfl, rfl, rfl, kk⟩
  refine ifd (fun z => ?_) fun z => ?_
  · have z : y < 0 := z
    rw [if_pos z] at k
    refine ⟨rfl, rfl, ?_⟩
    exact t3 (-m.c) (-m.d) (-m.f) (-y) bl.c.neg bl.d.neg bl.f.neg (by omega) by'.neg k
  · have z : ¬ y < 0 := z
    rw [if_neg z] at k
    exact t3 m.c m.d m.f y bl.c bl.d bl.f (by omega) by' k
end Py
namespace Py
open PySem PySem.Spec PyProof.Rows L2 DL Mov Hull Hrt Frm
inductive S_stands : List Dat → (Rv → Prop) → (Str → Prop) → Prop
  | mk {κ : Rv → Prop} {ε : Str → Prop} (X : List Pt) (j : Nat) (hj : j ≤ 1300) (h3 : 3 ≤ (hull X).length) (hl : (hull X).length < 64) (hb : ∀ p ∈ hull X, BP j p) (k : ∀ L : List Mv, L.Perm (stL (hull X)) → (L.Pairwise fun a b => ¬ kM b < kM a) → κ (.n (L.map mv))) : S_stands [.lst ((hull X).map pt)] κ ε
  | flat {κ : Rv → Prop} {ε : Str → Prop} (ps : List Pt) (h3 : ps.length < 3) (k : ε "Flat") : S_stands [.lst (ps.map pt)] κ ε
theorem sem_stands : ∀ ds κ ε, S_stands ds κ ε → d_stands S_stand_at (endsOf κ ε) (entry ms_stands 3 ds) := by
  intro ds κ ε hS
  cases hS with
  | flat ps h3 k =>
    refine ifd (fun _ => k) fun z => absurd (show ((ps.map pt).length : Int) < 3 by rw [List.length_map]; omega) z
  | mk X j hj h3 hl hb k =>
    obtain ⟨ps, hps⟩ : ∃ ps, ps = hull X := ⟨_, rfl⟩
    rw [← hps] at h3 hl hb k ⊢
    have el : ((ps.map pt).length : Int) = (ps.length : Int) := by rw [List.length_map]
    show d_stands _ _ [.br (ps.map pt), .un, .un]
    refine ifd (fun z => absurd (show ((ps.map pt).length : Int) < 3 from z) (by omega)) fun _ => ?_
    refine ⟨rfl, ?_⟩
    show t_stands_2 S_stand_at (endsOf κ ε) [.br (ps.map pt), .ow [], .un]
    refine ⟨by show -(2 ^ 62) ≤ ((ps.map pt).length : Int) ∧ _; omega, ?_⟩
    refine for_rng (fun i ρ => ∃ (L : List Mv) (ds : List Dat) (s2 : Sl), ρ = [.br (ps.map pt), .ow ds, s2] ∧ ds = L.map mv ∧ L = (List.range i).flatMap (Frm.stK ps)) ⟨_, _, _, rfl, rfl, rfl⟩ (fun i ρ N hi h hN => ?_) (fun ρ h => ?_)
    · obtain ⟨L, ds, s2, rfl, rfl, hL⟩ := h
      have hi : i < ps.length := by have hi : i < ((ps.map pt).length : Int).toNat := hi; omega
      obtain ⟨a1, a2, a3, a4, a5⟩ := pv_two h3 hi
      have i1 : atI (ps.map pt) (0 + (i : Int) - 1) = some (pt (pre ps i)) := by rw [Int.zero_add]; exact at_prev hi
      have i2 : atI (ps.map pt) (0 + (i : Int)) = some (pt (cur ps i)) := at_kI (k := i) (by omega) hi
      have i3 : atI (ps.map pt) (0 + (i : Int) - 2) = some (pt (pre2 ps i)) := by
        have key : ∀ (z : Int) (m : Nat), m < ps.length → (z = (m : Int) ∨ (z < 0 ∧ z + (ps.length : Int) = (m : Int))) → atI (ps.map pt) z = some (pt (ps.getD m (0, 0))) := by
          intro z m hm hz
          rcases hz with rfl | ⟨z0, hz⟩
          · exact at_k hm
          · unfold atI ixN
            rw [if_neg (by omega), if_pos (by rw [List.length_map]; omega)]
            have : (z + ((ps.map pt).length : Int)).toNat = m := by rw [List.length_map]; omega
            rw [this]
            show (ps.map pt)[m]? = _
            rw [List.getElem?_map, List.getElem?_eq_getElem hm, List.getD_eq_getElem?_getD, List.getElem?_eq_getElem hm]; rfl
        refine key _ _ a1 ?_
        unfold Hull.pv
        (repeat' split) <;> omega
      have s1 : (pre2 ps i, pre ps i) ∈ sides ps ∧ (pre ps i, cur ps i) ∈ sides ps := by rw [hps]; exact at_trip (by rw [← hps]; exact h3) (by rw [← hps]; exact hi)
      have T1 : Trip ps (pre ps i) (cur ps i) (pre2 ps i) := ⟨_, _, s1.1, s1.2, .inl ⟨rfl, rfl⟩⟩
      have T2 : Trip ps (pre ps i) (pre2 ps i) (cur ps i) := ⟨_, _, s1.1, s1.2, .inr ⟨rfl, rfl⟩⟩
      have t3 : ∀ {h n f : Pt}, Trip ps h n f → h ∈ ps ∧ n ∈ ps ∧ f ∈ ps ∧ h ≠ n ∧ h ≠ f ∧ span h n f ≠ 0 := by rw [hps]; exact fun T => trip_three (by rw [← hps]; exact h3) T
      obtain ⟨b1, b2, b3, b4, _, b5⟩ := t3 T1
      obtain ⟨c1, c2, c3, c4, _, c5⟩ := t3 T2
      have hLl : L.length ≤ 2 * i := by
        rw [hL, flat_len2]; omega
      refine onS_some i1 (onS_some i2 (onS_some i3 ?_))
      refine .mk _ _ _ j hj (hb _ b1) (hb _ b2) (hb _ b3) b4 b5 ?_
      refine ⟨szm (by omega), ?_⟩
      walk_at "nz"
      refine onS_some i1 (onS_some i3 (onS_some i2 ?_))
      refine .mk _ _ _ j hj (hb _ c1) (hb _ c2) (hb _ c3) c4 c5 ?_
      refine ⟨by rw [List.length_append, List.length_map]; exact sz_ok (by show L.length + 1 < 100000; omega), ?_⟩
      refine hN _ ⟨L ++ Frm.stK ps i, _, _, rfl, ?_, ?_⟩
      · unfold Frm.stK
        rw [List.map_append, List.append_assoc]; rfl
      · rw [hL, List.range_succ, List.flatMap_append]; simp only [List.flatMap_cons, List.flatMap_nil, List.append_nil]
    · obtain ⟨L, ds, s2, rfl, rfl, hL⟩ := h
      have e : ((ps.map pt).length : Int).toNat = ps.length := by omega
      rw [e] at hL
      have hL : L = stL ps := hL
      subst hL
      obtain ⟨ys, e1, e2, e3⟩ := kd_mv.sort (stL ps)
      refine ⟨kd_mv.srt _, ?_⟩
      rw [e1]
      exact ⟨rfl, k ys e2 e3⟩
end Py
namespace Py
open PySem PySem.Spec PyProof.Rows L2 DL Mov Hull Hrt Frm
inductive S_shapes_by_stands : List Dat → (Rv → Prop) → (Str → Prop) → Prop
  | mk {κ : Rv → Prop} {ε : Str → Prop} (X : List Pt) (j : Nat) (hj : j ≤ 1300) (h3 : 3 ≤ (hull X).length) (hl : (hull X).length < 64) (hb : ∀ p ∈ hull X, BP j p) (k : ∀ L : List Mv, L.Perm (stL (hull X)) → (L.Pairwise fun a b => ¬ kM b < kM a) → κ (.n ((L.map fun m => (shp (hull X) m, m)).map lm))) : S_shapes_by_stands [.lst ((hull X).map pt)] κ ε
theorem sem_shapes_by_stands : ∀ ds κ ε, S_shapes_by_stands ds κ ε → d_shapes_by_stands S_stands S_field_moved (endsOf κ ε) (entry ms_shapes_by_stands 2 ds) := by
  intro ds κ ε hS
  obtain ⟨X, j, hj, h3, hl, hb, k⟩ := hS
  show d_shapes_by_stands _ _ _ [.br ((hull X).map pt), .un]
  refine .mk X j hj h3 hl hb fun L pm pw => ?_
  have ll : L.length ≤ 128 := by rw [pm.length_eq, stL_len]; omega
  refine ⟨rfl, ?_⟩
  refine lc_map (xs := L) (f := mv) (h := fun m => lm (shp (hull X) m, m)) (by omega) (fun m N hm hN => ?_) ?_
  · have hm := pm.mem_iff.mp hm
    have bm := stL_bm h3 hb hm
    refine .mk (hull X) m (by intro z; rw [z] at h3; exact absurd h3 (by decide)) hl (fun p hp => (hb p hp).mono (by omega)) (stL_mv h3 hm) (bm.mono (by omega)) ?_
    exact ⟨rfl, hN⟩
  · have k := k L pm pw
    rw [List.map_map] at k
    exact ⟨rfl, k⟩
end Py
namespace Py
open PySem PySem.Spec PyProof.Rows L2 DL Mov Hull Hrt Frm
inductive S_form_and_move : List Dat → (Rv → Prop) → (Str → Prop) → Prop
  | mk {κ : Rv → Prop} {ε : Str → Prop} (X : List Pt) (j : Nat) (hj : j ≤ 1300) (h0 : X ≠ []) (hl : (hull X).length < 64) (hb : ∀ p ∈ hull X, BP j p) (k : ∀ F M, FormOf (hull X) F M → κ (.v (lm (F, M)))) : S_form_and_move [.lst ((hull X).map pt)] κ ε
theorem sem_form_and_move : ∀ ds κ ε, S_form_and_move ds κ ε → d_form_and_move S_field_moved S_level S_shapes_by_stands (endsOf κ ε) (entry ms_form_and_move 2 ds) := by
  intro ds κ ε hS
  obtain ⟨X, j, hj, h0, hl, hb, k⟩ := hS
  have hne := hull_ne h0
  have l0 : 0 < (hull X).length := List.length_pos_iff.mpr hne
  have el : (((hull X).map pt).length : Int) = ((hull X).length : Int) := by rw [List.length_map]
  have i0 : atI ((hull X).map pt) 0 = some (pt ((hull X).getD 0 (0, 0))) := at_kI (k := 0) rfl l0
  have b0 := hb _ (getD_mem l0)
  show d_form_and_move _ _ _ _ [.br ((hull X).map pt), .un]
  refine ⟨⟨rfl, rfl⟩, ifEq (fun h => ?_) fun n1 => ?_⟩
  · have h1 : (hull X).length = 1 := by have h : (((hull X).map pt).length : Int) = 1 := h; omega
    refine onS_some i0 (onS_some rfl (onS_some i0 (onS_some rfl ⟨rfl, ?_⟩)))
    have bm : BM (j + 1) ⟨1, 0, 0, 1, -((hull X).getD 0 (0, 0)).1, -((hull X).getD 0 (0, 0)).2⟩ := ⟨(Bt.lit (k := 1) rfl).mono (by omega), (Bt.lit (k := 1) rfl).mono (by omega), (Bt.lit (k := 1) rfl).mono (by omega), (Bt.lit (k := 1) rfl).mono (by omega), b0.x.neg.mono (by omega), b0.y.neg.mono (by omega)⟩
    have im : IsMv ⟨1, 0, 0, 1, -((hull X).getD 0 (0, 0)).1, -((hull X).getD 0 (0, 0)).2⟩ := .inl (show (1 : Int) * 1 - 0 * 0 = 1 by decide)
    refine S_field_moved.mk (hull X) ⟨1, 0, 0, 1, -((hull X).getD 0 (0, 0)).1, -((hull X).getD 0 (0, 0)).2⟩ hne hl (fun p hp => (hb p hp).mono (by omega)) im (bm.mono (by omega)) ?_
    exact ⟨rfl, rfl, k _ _ ⟨im, rfl, fun _ => rfl, fun z => by omega, fun z => by omega⟩⟩
  refine ⟨⟨rfl, rfl⟩, ifEq (fun h => ?_) fun n2 => ?_⟩
  · have h2 : (hull X).length = 2 := by have h : (((hull X).map pt).length : Int) = 2 := h; omega
    have i1 : atI ((hull X).map pt) 1 = some (pt ((hull X).getD 1 (0, 0))) := at_kI (k := 1) rfl (by omega)
    have b1 := hb _ (getD_mem (show 1 < (hull X).length by omega))
    have ne : (hull X).getD 0 (0, 0) ≠ (hull X).getD 1 (0, 0) := fun z => by
      have := getD_inj (hull_nodup X) (show 0 < (hull X).length by omega) (show 1 < (hull X).length by omega) z
      omega
    have bm := lv_bm b0 b1 ne
    obtain ⟨s, t, L, _, _⟩ := lv_ok ne
    refine onS_some i0 (onS_some i1 ?_)
    refine level_go (b0.mono (by omega)) (b1.mono (by omega)) ne ?_
    refine S_field_moved.mk (hull X) _ hne hl (fun p hp => (hb p hp).mono (by omega)) (.inl L.mv) (bm.mono (by omega)) ?_
    exact ⟨rfl, rfl, k _ _ ⟨.inl L.mv, rfl, fun z => by omega, fun _ => rfl, fun z => by omega⟩⟩
  · have n1 : (((hull X).map pt).length : Int) ≠ 1 := n1
    have n2 : (((hull X).map pt).length : Int) ≠ 2 := n2
    have h3 : 3 ≤ (hull X).length := by omega
    refine .mk X j hj h3 hl hb fun L pm pw => ?_
    have l1 : L.map (fun m => (shp (hull X) m, m)) ≠ [] := by
      intro z
      have := congrArg List.length z
      rw [List.length_map, pm.length_eq, stL_len] at this
      simp at this
      omega
    have key := kd_lm.mn l1 (P := fun d ds => AlkOk (d :: ds) ∧ retOk (.v (minO d ds)) = true ∧ κ (.v (minO d ds))) fun d ds m e ak em hm hle => ⟨ak, rfl, by
      rw [em]
      obtain ⟨M, hM, rfl⟩ := List.mem_map.mp hm
      have hM' := pm.mem_iff.mp hM
      exact k _ _ ⟨stL_mv h3 hM', rfl, fun z => by omega, fun z => by omega, fun _ => ⟨hM', rfl, fun m' hm' => hle _ (List.mem_map.mpr ⟨m', pm.mem_iff.mpr hm', rfl⟩)⟩⟩⟩
    generalize (L.map fun m => (shp (hull X) m, m)).map lm = es at *
    cases es with
    | nil => exact key.elim
    | cons d ds => exact key
end Py
namespace Py
open PySem PySem.Spec PyProof.Rows L2 DL Mov Hull Hrt Frm
inductive S_alike : List Dat → (Rv → Prop) → (Str → Prop) → Prop
  | mk {κ : Rv → Prop} {ε : Str → Prop} (X Y : List Pt) (j : Nat) (hj : j ≤ 800) (x0 : X ≠ []) (y0 : Y ≠ []) (xl : (hull X).length < 64) (yl : (hull Y).length < 64) (xb : ∀ p ∈ hull X, BP j p) (yb : ∀ p ∈ hull Y, BP j p) (k : ∀ F M G N, FormOf (hull X) F M → FormOf (hull Y) G N → κ (.v (if F = G then mv (thn M (back N)) else .non))) : S_alike [.lst ((hull X).map pt), .lst ((hull Y).map pt)] κ ε
theorem sem_alike : ∀ ds κ ε, S_alike ds κ ε → d_alike S_form_and_move S_behind S_way_back (endsOf κ ε) (entry ms_alike 4 ds) := by
  intro ds κ ε h
  obtain ⟨X, Y, j, hj, x0, y0, xl, yl, xb, yb, k⟩ := h
  refine .mk X j (by omega) x0 xl xb fun F M hF => ?_
  refine .mk Y j (by omega) y0 yl yb fun G N hG => ?_
  have k := k F M G N hF hG
  obtain ⟨fb, _⟩ := form_bm x0 xb hF
  obtain ⟨gb, _⟩ := form_bm y0 yb hG
  refine onS_some rfl (onS_some rfl ⟨⟨shp_pts _ _, shp_pts _ _⟩, ifPtsNe (fun z => ?_) fun z => ?_⟩)
  · rw [if_neg z] at k
    exact ⟨rfl, k⟩
  · rw [if_pos z] at k
    refine onS_some rfl (onS_some rfl ?_)
    refine way_back_go hG.mv (gb.mono (by omega)) ?_
    exact behind_go hF.mv hG.mv.back (fb.mono (by omega)) ((back_bm gb hG.mv).mono (by omega)) ⟨rfl, k⟩
end Py
namespace Py
open PySem PySem.Spec PyProof.Rows L2 DL
def S_L_whole : Fsp := fun ds κ _ => ∃ d, ds = [d] ∧ κ (.v (.bl (match d with | .int _ => true | _ => false)))
theorem sem_L_whole : ∀ ds κ ε, S_L_whole ds κ ε → d_L_whole (endsOf κ ε) (entry ms_L_whole 1 ds) := by
  rintro _ κ ε ⟨d, rfl, k⟩
  cases d <;> exact ⟨rfl, k⟩
end Py
namespace Py
open PySem PySem.Spec PyProof.Rows L2 DL Hull
inductive S_L_cross : List Dat → (Rv → Prop) → (Str → Prop) → Prop
  | mk {κ : Rv → Prop} {ε : Str → Prop} (a b p : Pt) (ha : BP 100000 a) (hb : BP 100000 b) (hp : BP 100000 p) (k : κ (.v (.int (span a b p)))) : S_L_cross [pt a, pt b, pt p] κ ε
theorem sem_L_cross : ∀ ds κ ε, S_L_cross ds κ ε → d_L_cross (endsOf κ ε) (entry ms_L_cross 4 ds) := by
  intro ds κ ε h
  obtain ⟨a, b, p, ha, hb, hp, k⟩ := h
  refine onS_some rfl (onS_some rfl (onS_some rfl (onS_some rfl ⟨mulok (hb.x.sub ha.x) (hp.y.sub ha.y) rfl, ?_⟩)))
  refine onS_some rfl (onS_some rfl (onS_some rfl (onS_some rfl ⟨mulok (hb.y.sub ha.y) (hp.x.sub ha.x) rfl, ?_⟩)))
  exact ⟨rfl, k⟩
end Py
namespace Py
open PySem PySem.Spec PyProof.Rows L2 DL Hull
inductive S_L_corners : List Dat → (Rv → Prop) → (Str → Prop) → Prop
  | mk {κ : Rv → Prop} {ε : Str → Prop} (ps : List Pt) (hl : ps.length < 64) (h2 : 2 ≤ (hull ps).length) (hb : ∀ p ∈ ps, BP 100000 p) (k : κ (.n ((hull ps).map pt))) : S_L_corners [.lst (ps.map pt)] κ ε
theorem L_corners_go {ds : List Dat} {κ : Rv → Prop} {ε : Str → Prop} (ps : List Pt) (e : ds = ps.map pt) (hl : ps.length < 64) (h2 : 2 ≤ (hull ps).length) (hb : ∀ p ∈ ps, BP 100000 p) (k : κ (.n ((hull ps).map pt))) : S_L_corners [.lst ds] κ ε := by rw [e]; exact .mk ps hl h2 hb k
theorem sem_L_corners : ∀ ds κ ε, S_L_corners ds κ ε → d_L_corners S_L_cross (endsOf κ ε) (entry ms_L_corners 6 ds) := by
  intro ds κ ε h
  obtain ⟨ps, hl, h2, hb, k⟩ := h
  refine onS_some (ptsD_map ps) ⟨hl, fun L hp hm => ?_⟩
  have eL := srt_uniq hp hm
  subst eL
  have hs : ∀ x ∈ srt ps, BP 100000 x := fun x hx => hb x ((mem_srt ps x).mp hx)
  have hsl := srt_len ps
  · have h1 : (srt ps).length ≠ 1 := fun z => by
      unfold hull at h2
      rw [if_pos z] at h2
      omega
    unfold hull at k
    rw [if_neg h1] at k
    refine ⟨rfl, ?_⟩
    walk_at "w"
    refine ⟨rfl, rfl, ?_⟩
    have key : ∀ ds : List Dat, ds = [srt ps, (srt ps).reverse].map (fun w => Dat.lst (w.map pt)) → sForL (gN 3) (b_L_corners_4 S_L_cross) { (endsOf κ ε) with nx := t_L_corners_3 S_L_cross (endsOf κ ε) } ds [.br (ps.map pt), .fz (.lst ((srt ps).map pt)), .ow [], .un, .un, .un] := ?_
    · refine key _ ?_
      show [Dat.lst ((srt ps).map pt), Dat.lst (((srt ps).map pt).reverse)] = [Dat.lst ((srt ps).map pt), Dat.lst ((srt ps).reverse.map pt)]
      rw [List.map_reverse]
    intro ds hds
    rw [hds]
    refine for_map (f := fun w => Dat.lst (w.map pt)) (xs := [srt ps, (srt ps).reverse]) (fun i ρ => ∃ (Fs : List Pt) (F : List Dat) (s3 s4 s5 : Sl), ρ = [.br (ps.map pt), .fz (.lst ((srt ps).map pt)), .ow F, s3, s4, s5] ∧ F = Fs.map pt ∧ Fs = (([srt ps, (srt ps).reverse].take i).map fun w => (half w).dropLast).flatten ∧ Fs.length ≤ 100 * i) ⟨[], _, _, _, _, rfl, rfl, rfl, by simp⟩ (fun i' w ρ N0 hw h hN0 => ?_) (fun ρ h => ?_)
    · obtain ⟨Fs, F, s3, s4, s5, rfl, eF, eFs, lF⟩ := h
      have mw := List.mem_of_getElem? hw
      have hb : ∀ p ∈ w, BP 100000 p := by
        simp only [List.mem_cons, List.not_mem_nil, or_false] at mw
        rcases mw with rfl | rfl
        · exact hs
        · exact fun x hx => hs x (List.mem_reverse.mp hx)
      have lw : w.length < 64 := by
        simp only [List.mem_cons, List.not_mem_nil, or_false] at mw
        rcases mw with rfl | rfl
        · omega
        · rw [List.length_reverse]; omega
      have i2 : i' < 2 := by
        by_cases z : i' < 2
        · exact z
        · rw [List.getElem?_eq_none (by simp; omega)] at hw; exact nomatch hw
      have tkw : [srt ps, (srt ps).reverse].take (i' + 1) = [srt ps, (srt ps).reverse].take i' ++ [w] := by rw [List.take_add_one, hw]; rfl
      refine ⟨rfl, ?_⟩
      walk_at "nz"
      refine ⟨rfl, ?_⟩
      refine for_map (f := pt) (xs := w) (fun i ρ => ∃ s2, ρ = [.br (ps.map pt), .fz (.lst ((srt ps).map pt)), .ow F, .fz (.lst (w.map pt)), .ow ((stk (w.take i)).reverse.map pt), s2] ∧ (∀ p ∈ stk (w.take i), BP 100000 p) ∧ (stk (w.take i)).length ≤ i) ⟨_, rfl, fun p hp => absurd hp (by simp [stk]), Nat.le_refl _⟩ (fun i p ρ N hp h hN => ?_) (fun ρ h => ?_)
      · obtain ⟨s2, rfl, hs, hsl⟩ := h
        have hi : i < w.length := by
          by_cases z : i < w.length
          · exact z
          · rw [List.getElem?_eq_none (by omega)] at hp; exact nomatch hp
        have bp := hb p (List.mem_of_getElem? hp)
        have ht := stk_take hp
        rw [ht] at hN
        generalize stk (w.take i) = s at *
        refine while_ind (fun n ρ => ∃ r : List Pt, ρ = [.br (ps.map pt), .fz (.lst ((srt ps).map pt)), .ow F, .fz (.lst (w.map pt)), .ow (r.reverse.map pt), .fz (pt p)] ∧ n = r.length ∧ popd r p = popd s p ∧ (∀ q ∈ r, BP 100000 q) ∧ r.length ≤ i) s.length ⟨s, rfl, rfl, rfl, hs, hsl⟩ ?_
        rintro n _ R ⟨r, rfl, rfl, e, hr, hrl⟩ hR
        have fin : ∀ (D : DEnds) (r : List Pt), D.nx = N → popd r p = r → popd r p = popd s p → (∀ q ∈ r, BP 100000 q) → r.length ≤ i → (sApp 4 (dVar 5)) D [.br (ps.map pt), .fz (.lst ((srt ps).map pt)), .ow F, .fz (.lst (w.map pt)), .ow (r.reverse.map pt), .fz (pt p)] := by
          intro D r eD e1 e2 hr hrl
          show _ ∧ D.nx _
          rw [eD]
          refine ⟨szm (by rw [List.length_reverse]; omega), ?_⟩
          have ee : push s p = p :: r := by unfold push; rw [← e2, e1]
          refine hN _ ⟨.fz (pt p), ?_, ?_, ?_⟩
          · rw [ee, ← push_rest]; rfl
          · rw [ee]; intro q hq
            rcases List.mem_cons.mp hq with rfl | hq
            · exact bp
            · exact hr q hq
          · rw [ee, List.length_cons]; omega
        match r, e, hr, hrl, hR with
        | [], e, hr, hrl, hR => exact fin _ [] rfl rfl e hr hrl
        | [a], e, hr, hrl, hR => exact fin _ [a] rfl rfl e hr hrl
        | b :: a :: r, e, hr, hrl, hR =>
          refine ifd (fun _ => ?_) fun h => absurd (show ((((b :: a :: r).reverse.map pt).length : Nat) : Int) > 1 by simp; omega) h
          refine onS_some at_next ?_
          refine onS_some at_top ?_
          refine .mk a b p (hr a (by simp)) (hr b (by simp)) bp ?_
          refine ifd (fun h => ?_) fun h => ?_
          · have hsp : span a b p ≤ 0 := h
            refine onS_some pop_at ?_
            refine hR (a :: r).length _ (by simp) ⟨a :: r, by show [_, _, _, _, Sl.ow ((((b :: a :: r).reverse.map pt)).dropLast), _] = _; rw [pop_rest], rfl, ?_, fun q hq => hr q (by simp [hq]), by simp only [List.length_cons] at *; omega⟩
            rw [← e]
            conv => rhs; unfold popd
            rw [if_pos hsp]
          · have hsp : ¬ span a b p ≤ 0 := h
            refine fin _ _ rfl ?_ e hr hrl
            unfold popd; rw [if_neg hsp]
      · obtain ⟨s2, rfl, hs, hsl⟩ := h
        rw [List.take_length]
        have hl2 := (half_all (P := BP 100000) (ps := w) hb).2
        have cl : DL.cutD ((stk w).reverse.map pt) none (some (-1)) = ((half w).dropLast).map pt := cut_last _
        show F.length + (DL.cutD ((stk w).reverse.map pt) none (some (-1))).length ≤ sizeLine ∧ N0 [.br (ps.map pt), .fz (.lst ((srt ps).map pt)), .ow (F ++ DL.cutD ((stk w).reverse.map pt) none (some (-1))), .fz (.lst (w.map pt)), .ow ((stk w).reverse.map pt), s2]
        rw [cl, eF]
        refine ⟨Nat.le_of_lt (sz_ok ?_), hN0 _ ⟨Fs ++ (half w).dropLast, _, _, _, _, rfl, (List.map_append ..).symm, ?_, ?_⟩⟩
        · rw [List.length_map, List.length_map, List.length_dropLast]; omega
        · rw [tkw, List.map_append, List.flatten_append, eFs]; simp
        · rw [List.length_append, List.length_dropLast]; omega
    · obtain ⟨Fs, F, s3, s4, s5, rfl, eF, eFs, lF⟩ := h
      rw [eF, eFs]
      have e : (([srt ps, (srt ps).reverse].take [srt ps, (srt ps).reverse].length).map fun w => (half w).dropLast).flatten = (half (srt ps)).dropLast ++ (half (srt ps).reverse).dropLast := by simp
      rw [e]
      exact k
end Py
namespace Py
open PySem PySem.Spec PyProof.Rows L2 DL
def cAt (ns : List Int) (k : Int) : Int := ns.getD k.toNat 0
theorem cAt_bt {ns : List Int} (hs : Scr ns) (k : Int) : Bt 1048577 (cAt ns k) := by
  unfold cAt
  rw [List.getD_eq_getElem?_getD]
  by_cases h : k.toNat < ns.length
  · rw [List.getElem?_eq_getElem h]
    exact hs.bt _ (List.getElem_mem h)
  · rw [List.getElem?_eq_none (by omega)]
    exact (Bt.lit (k := 1) rfl).mono (by decide)
inductive S_L_cell_at : List Dat → (Rv → Prop) → (Str → Prop) → Prop
  | mk {κ : Rv → Prop} {ε : Str → Prop} (ns : List Int) (k : Int) (hs : Scr ns) (h0 : 0 ≤ k) (q : κ (.v (.int (cAt ns k)))) : S_L_cell_at [.lst (ns.map Dat.int), .int k] κ ε
theorem sem_L_cell_at : ∀ ds κ ε, S_L_cell_at ds κ ε → d_L_cell_at (endsOf κ ε) (entry ms_L_cell_at 2 ds) := by
  intro ds κ ε h
  obtain ⟨ns, k, hs, h0, q⟩ := h
  obtain ⟨k, rfl⟩ := Int.eq_ofNat_of_zero_le h0
  unfold cAt at q
  rw [List.getD_eq_getElem?_getD] at q
  refine ifd (fun hl => ?_) (fun hl => ?_)
  · have hl : k < ns.length := by rw [List.length_map] at hl; omega
    have e : ((k : Nat) : Int).toNat = k := by omega
    rw [e, List.getElem?_eq_getElem hl] at q
    exact onS_some (at_mapI (j := k) rfl (List.getElem?_eq_getElem hl)) ⟨rfl, q⟩
  · have hl : ¬ k < ns.length := by rw [List.length_map] at hl; omega
    have e : ((k : Nat) : Int).toNat = k := by omega
    rw [e, List.getElem?_eq_none (by omega)] at q
    exact ⟨rfl, q⟩
end Py
namespace Py
open PySem PySem.Spec PyProof.Rows L2 DL Mov
inductive S_L_by : List Dat → (Rv → Prop) → (Str → Prop) → Prop
  | mk {κ : Rv → Prop} {ε : Str → Prop} (m : Mv) (p : Pt) (bm : BM 20000 m) (bp : BP 20000 p) (k : κ (.v (pt (act m p)))) : S_L_by [mv m, pt p] κ ε
theorem sem_L_by : ∀ ds κ ε, S_L_by ds κ ε → d_L_by (endsOf κ ε) (entry ms_L_by 3 ds) := by
  intro ds κ ε h
  obtain ⟨m, p, bm, bp, k⟩ := h
  refine onS_some rfl (onS_some rfl ⟨mulok bm.a bp.x rfl, onS_some rfl (onS_some rfl ⟨mulok bm.b bp.y rfl, onS_some rfl ?_⟩)⟩)
  refine onS_some rfl (onS_some rfl ⟨mulok bm.c bp.x rfl, onS_some rfl (onS_some rfl ⟨mulok bm.d bp.y rfl, onS_some rfl ⟨rfl, rfl, k⟩⟩)⟩)
end Py
namespace Py
open PySem PySem.Spec PyProof.Rows L2 DL Mov Hull Hrt Frm
inductive S_L_from : List Dat → (Rv → Prop) → (Str → Prop) → Prop
  | mk {κ : Rv → Prop} {ε : Str → Prop} (p q : Pt) (k : κ (.v (pt (q.1 - p.1, q.2 - p.2)))) : S_L_from [pt p, pt q] κ ε
theorem sem_L_from : ∀ ds κ ε, S_L_from ds κ ε → d_L_from (endsOf κ ε) (entry ms_L_from 2 ds) := by
  intro ds κ ε h
  obtain ⟨p, q, k⟩ := h
  exact onS_some rfl (onS_some rfl (onS_some rfl (onS_some rfl ⟨rfl, rfl, k⟩)))
theorem nbr_at {ps : List Pt} (h0 : 0 < ps.length) (k : Nat) (w : Int) : atI (ps.map pt) (((k : Int) + w) % (ps.length : Int)) = some (pt (nbr ps k w)) := by
  have e := Int.emod_nonneg ((k : Int) + w) (show (ps.length : Int) ≠ 0 by omega)
  have l := Int.emod_lt_of_pos ((k : Int) + w) (show 0 < (ps.length : Int) by omega)
  refine at_kI (k := (((k : Int) + w) % (ps.length : Int)).toNat) (by omega) (by omega)
theorem nbr_mem {ps : List Pt} (h0 : 0 < ps.length) (k : Nat) (w : Int) : nbr ps k w ∈ ps := by
  have e := Int.emod_nonneg ((k : Int) + w) (show (ps.length : Int) ≠ 0 by omega)
  have l := Int.emod_lt_of_pos ((k : Int) + w) (show 0 < (ps.length : Int) by omega)
  exact getD_mem (by omega)
inductive S_L_tried : List Dat → (Rv → Prop) → (Str → Prop) → Prop
  | mk {κ : Rv → Prop} {ε : Str → Prop} (A B : List Pt) (k : Nat) (w : Int) (h0 : A ≠ []) (h3 : 3 ≤ (hull A).length) (hA : (hull A).length < 64) (hk : k < (hull B).length) (hB : (hull B).length < 64) (hw : w = 1 ∨ w = -1) (ab : ∀ p ∈ hull A, BP 400 p) (bb : ∀ p ∈ hull B, BP 400 p)
    (kn : (∀ m, IsMv m → ¬ Fits (hull A) (hull B) k w m) → κ (.v .non)) (kk : ∀ m, IsMv m → BM 3000 m → Fits (hull A) (hull B) k w m → (∀ m', Fits (hull A) (hull B) k w m' → m' = m) → κ (.v (mv m))) : S_L_tried [.lst ((hull A).map pt), .lst ((hull B).map pt), .int (k : Int), .int w] κ ε
theorem sem_L_tried : ∀ ds κ ε, S_L_tried ds κ ε → d_L_tried S_L_from (endsOf κ ε) (entry ms_L_tried 17 ds) := by
  intro ds κ ε h
  obtain ⟨A, B, k, w, h0, h3, hA, hk, hB, hw, ab, bb, kn, kk⟩ := h
  have i0 : atI ((hull A).map pt) 0 = some (pt (cur (hull A) 0)) := at_kI (k := 0) rfl (by omega)
  have i1 : atI ((hull A).map pt) 1 = some (pt (cur (hull A) 1)) := at_kI (k := 1) rfl (by omega)
  have il : atI ((hull A).map pt) (-1) = some (pt (pre (hull A) 0)) := at_prev (show 0 < (hull A).length by omega)
  have j0 : atI ((hull B).map pt) (k : Int) = some (pt (cur (hull B) k)) := at_kI (k := k) rfl hk
  have eB : (((hull B).map pt).length : Int) = ((hull B).length : Int) := by rw [List.length_map]
  have j1 : atI ((hull B).map pt) (((k : Int) + w) % (((hull B).map pt).length : Int)) = some (pt (nbr (hull B) k w)) := by rw [eB]; exact nbr_at (by omega) k w
  have j2 : atI ((hull B).map pt) (((k : Int) - w) % (((hull B).map pt).length : Int)) = some (pt (nbr (hull B) k (-w))) := by rw [eB, Int.sub_eq_add_neg]; exact nbr_at (by omega) k (-w)
  have pB : (0 : Int) < (((hull B).map pt).length : Int) := by omega
  have ba := ab _ (getD_mem (show 0 < (hull A).length by omega))
  have bc := ab _ (getD_mem (show 1 < (hull A).length by omega))
  have bl : BP 400 (pre (hull A) 0) := ab _ (getD_mem (pv_nx (n := (hull A).length) (k := 0) (by omega)).2)
  have bo := bb _ (getD_mem hk)
  have br := bb _ (nbr_mem (show 0 < (hull B).length by omega) k w)
  have bs := bb _ (nbr_mem (show 0 < (hull B).length by omega) k (-w))
  have wide : 0 < span (cur (hull A) 0) (cur (hull A) 1) (pre (hull A) 0) := by
    have t := hull_turn h0 h3 (k := (hull A).length - 1) (by omega)
    have e1 : ((hull A).length - 1 + 1) % (hull A).length = 0 := by rw [show (hull A).length - 1 + 1 = (hull A).length by omega]; exact Nat.mod_self _
    have e2 : ((hull A).length - 1 + 2) % (hull A).length = 1 := by rw [show (hull A).length - 1 + 2 = (hull A).length + 1 by omega, Nat.add_mod_left]; exact Nat.mod_eq_of_lt (by omega)
    rw [e1, e2] at t
    have ep : pre (hull A) 0 = (hull A).getD ((hull A).length - 1) (0, 0) := rfl
    rw [ep]
    unfold cur
    generalize (hull A).getD ((hull A).length - 1) (0, 0) = x at *
    generalize (hull A).getD 0 (0, 0) = y at *
    generalize (hull A).getD 1 (0, 0) = z at *
    unfold span at t ⊢
    grind
  have kn' : (∀ m, IsMv m → ¬ (act m (cur (hull A) 0) = cur (hull B) k ∧ act m (cur (hull A) 1) = nbr (hull B) k w ∧ act m (pre (hull A) 0) = nbr (hull B) k (-w))) → κ (.v .non) := kn
  have kk' : ∀ m, IsMv m → BM 3000 m → (act m (cur (hull A) 0) = cur (hull B) k ∧ act m (cur (hull A) 1) = nbr (hull B) k w ∧ act m (pre (hull A) 0) = nbr (hull B) k (-w)) → (∀ m', (act m' (cur (hull A) 0) = cur (hull B) k ∧ act m' (cur (hull A) 1) = nbr (hull B) k w ∧ act m' (pre (hull A) 0) = nbr (hull B) k (-w)) → m' = m) → κ (.v (mv m)) := kk
  clear kn kk
  have bo' : BP 400 (cur (hull B) k) := bo
  have ba' : BP 400 (cur (hull A) 0) := ba
  have bc' : BP 400 (cur (hull A) 1) := bc
  clear bo ba bc
  generalize cur (hull A) 0 = a0 at *
  generalize cur (hull A) 1 = a1 at *
  generalize pre (hull A) 0 = a2 at *
  generalize cur (hull B) k = b0 at *
  generalize nbr (hull B) k w = b1 at *
  generalize nbr (hull B) k (-w) = b2 at *
  show d_L_tried _ _ [.br ((hull A).map pt), .br ((hull B).map pt), .fz (.int (k : Int)), .fz (.int w), .un, .un, .un, .un, .un, .un, .un, .un, .un, .un, .un, .un, .un]
  refine onS_some i0 (onS_some i1 (.mk _ _ ?_))
  refine onS_some i0 (onS_some il (.mk _ _ ?_))
  refine onS_some j0 ⟨pB, onS_some j1 (.mk _ _ ?_)⟩
  refine onS_some j0 ⟨pB, onS_some j2 (.mk _ _ ?_)⟩
  have lin : ∀ m : Mv, act m a0 = b0 → ((act m a1 = b1 ∧ act m a2 = b2) ↔ (m.a * (a1.1 - a0.1) + m.b * (a1.2 - a0.2) = b1.1 - b0.1 ∧ m.c * (a1.1 - a0.1) + m.d * (a1.2 - a0.2) = b1.2 - b0.2 ∧ m.a * (a2.1 - a0.1) + m.b * (a2.2 - a0.2) = b2.1 - b0.1 ∧ m.c * (a2.1 - a0.1) + m.d * (a2.2 - a0.2) = b2.2 - b0.2)) := by
    intro m h
    subst h
    constructor
    · rintro ⟨rfl, rfl⟩
      unfold act
      refine ⟨?_, ?_, ?_, ?_⟩ <;> dsimp only <;> grind
    · rintro ⟨e1, e2, e3, e4⟩
      unfold act at e1 e2 e3 e4 ⊢
      dsimp only at e1 e2 e3 e4
      refine ⟨Prod.ext ?_ ?_, Prod.ext ?_ ?_⟩ <;> dsimp only <;> grind
  have bp : BP 402 ((a1.1 - a0.1, a1.2 - a0.2) : Pt) := ⟨(bc'.x.sub ba'.x).mono (by decide), (bc'.y.sub ba'.y).mono (by decide)⟩
  have bq : BP 402 ((a2.1 - a0.1, a2.2 - a0.2) : Pt) := ⟨(bl.x.sub ba'.x).mono (by decide), (bl.y.sub ba'.y).mono (by decide)⟩
  have brr : BP 402 ((b1.1 - b0.1, b1.2 - b0.2) : Pt) := ⟨(br.x.sub bo'.x).mono (by decide), (br.y.sub bo'.y).mono (by decide)⟩
  have bss : BP 402 ((b2.1 - b0.1, b2.2 - b0.2) : Pt) := ⟨(bs.x.sub bo'.x).mono (by decide), (bs.y.sub bo'.y).mono (by decide)⟩
  have w0 : 0 < (a1.1 - a0.1) * (a2.2 - a0.2) - (a1.2 - a0.2) * (a2.1 - a0.1) := wide
  show t_L_tried_4 _ (endsOf κ ε) [.br ((hull A).map pt), .br ((hull B).map pt), .fz (.int (k : Int)), .fz (.int w), .fz (pt (a1.1 - a0.1, a1.2 - a0.2)), .fz (pt (a2.1 - a0.1, a2.2 - a0.2)), .fz (pt (b1.1 - b0.1, b1.2 - b0.2)), .fz (pt (b2.1 - b0.1, b2.2 - b0.2)), .un, .un, .un, .un, .un, .un, .un, .un, .un]
  have p1 : Bt 402 (a1.1 - a0.1) := bp.x
  have p2 : Bt 402 (a1.2 - a0.2) := bp.y
  have q1 : Bt 402 (a2.1 - a0.1) := bq.x
  have q2 : Bt 402 (a2.2 - a0.2) := bq.y
  have r1 : Bt 402 (b1.1 - b0.1) := brr.x
  have r2 : Bt 402 (b1.2 - b0.2) := brr.y
  have s1 : Bt 402 (b2.1 - b0.1) := bss.x
  have s2 : Bt 402 (b2.2 - b0.2) := bss.y
  clear bp bq brr bss wide
  generalize a1.1 - a0.1 = px at *
  generalize a1.2 - a0.2 = py at *
  generalize a2.1 - a0.1 = qx at *
  generalize a2.2 - a0.2 = qy at *
  generalize b1.1 - b0.1 = rx at *
  generalize b1.2 - b0.2 = ry at *
  generalize b2.1 - b0.1 = sx at *
  generalize b2.2 - b0.2 = sy at *
  walk_at "au"
  refine ⟨Nat.le_of_lt (sz_ok (show 2 + 2 < 100000 by decide)), ?_⟩
  show t_L_tried_7 _ (endsOf κ ε) [.br ((hull A).map pt), .br ((hull B).map pt), .fz (.int (k : Int)), .fz (.int w), .fz (pt (px, py)), .fz (pt (qx, qy)), .fz (pt (rx, ry)), .fz (pt (sx, sy)), .fz (.int (px * qy - py * qx)), .ow ([rx * qy - sx * py, sx * px - rx * qx, ry * qy - sy * py, sy * px - ry * qx].map Dat.int), .un, .un, .un, .un, .un, .un, .un]
  have bW : Bt 810 (px * qy - py * qx) := ((p1.mul q2).sub (p2.mul q1)).mono (by decide)
  have bt0 : Bt 810 (rx * qy - sx * py) := ((r1.mul q2).sub (s1.mul p2)).mono (by decide)
  have bt1 : Bt 810 (sx * px - rx * qx) := ((s1.mul p1).sub (r1.mul q1)).mono (by decide)
  have bt2 : Bt 810 (ry * qy - sy * py) := ((r2.mul q2).sub (s2.mul p2)).mono (by decide)
  have bt3 : Bt 810 (sy * px - ry * qx) := ((s2.mul p1).sub (r2.mul q1)).mono (by decide)
  have mul : ∀ m : Mv, (m.a * px + m.b * py = rx ∧ m.c * px + m.d * py = ry ∧ m.a * qx + m.b * qy = sx ∧ m.c * qx + m.d * qy = sy) → rx * qy - sx * py = m.a * (px * qy - py * qx) ∧ sx * px - rx * qx = m.b * (px * qy - py * qx) ∧ ry * qy - sy * py = m.c * (px * qy - py * qx) ∧ sy * px - ry * qx = m.d * (px * qy - py * qx) := by
    rintro m ⟨e1, e2, e3, e4⟩
    subst e1 e2 e3 e4
    refine ⟨?_, ?_, ?_, ?_⟩ <;> grind
  have div : ∀ a b c d : Int, a * (px * qy - py * qx) = rx * qy - sx * py → b * (px * qy - py * qx) = sx * px - rx * qx → c * (px * qy - py * qx) = ry * qy - sy * py → d * (px * qy - py * qx) = sy * px - ry * qx → (a * px + b * py = rx ∧ c * px + d * py = ry ∧ a * qx + b * qy = sx ∧ c * qx + d * qy = sy) := by
    intro a b c d e1 e2 e3 e4
    have ne : px * qy - py * qx ≠ 0 := by omega
    refine ⟨Int.eq_of_mul_eq_mul_right ne ?_, Int.eq_of_mul_eq_mul_right ne ?_, Int.eq_of_mul_eq_mul_right ne ?_, Int.eq_of_mul_eq_mul_right ne ?_⟩
    · have : (a * px + b * py) * (px * qy - py * qx) = a * (px * qy - py * qx) * px + b * (px * qy - py * qx) * py := by grind
      rw [this, e1, e2]; grind
    · have : (c * px + d * py) * (px * qy - py * qx) = c * (px * qy - py * qx) * px + d * (px * qy - py * qx) * py := by grind
      rw [this, e3, e4]; grind
    · have : (a * qx + b * qy) * (px * qy - py * qx) = a * (px * qy - py * qx) * qx + b * (px * qy - py * qx) * qy := by grind
      rw [this, e1, e2]; grind
    · have : (c * qx + d * qy) * (px * qy - py * qx) = c * (px * qy - py * qx) * qx + d * (px * qy - py * qx) * qy := by grind
      rw [this, e3, e4]; grind
  generalize px * qy - py * qx = W at *
  generalize rx * qy - sx * py = t0 at *
  generalize sx * px - rx * qx = t1 at *
  generalize ry * qy - sy * py = t2 at *
  generalize sy * px - ry * qx = t3 at *
  have hl := (bW.mono (by decide : 810 ≤ 9000)).log2 (by decide)
  have fin : ∀ s10 : Sl, t0 % W = 0 → t1 % W = 0 → t2 % W = 0 → t3 % W = 0 → t_L_tried_8 S_L_from (endsOf κ ε) [.br ((hull A).map pt), .br ((hull B).map pt), .fz (.int (k : Int)), .fz (.int w), .fz (pt (px, py)), .fz (pt (qx, qy)), .fz (pt (rx, ry)), .fz (pt (sx, sy)), .fz (.int W), .fz (.lst ([t0, t1, t2, t3].map Dat.int)), s10, .un, .un, .un, .un, .un, .un] := by
    intro s10 z0 z1 z2 z3
    refine ⟨rfl, ?_⟩
    show lcL (gN 10) tYesD b_L_tried_2 _ _ [] ([t0, t1, t2, t3].map Dat.int)
    refine lc_map (xs := [t0, t1, t2, t3]) (f := Dat.int) (h := fun t => .int (t / W)) (by simp) (fun t N ht hN => ⟨⟨w0, hl⟩, hN⟩) ?_
    refine ⟨rfl, ?_⟩
    show t_L_tried_9 S_L_from (endsOf κ ε) [.br ((hull A).map pt), .br ((hull B).map pt), .fz (.int (k : Int)), .fz (.int w), .fz (pt (px, py)), .fz (pt (qx, qy)), .fz (pt (rx, ry)), .fz (pt (sx, sy)), .fz (.int W), .fz (.lst ([t0, t1, t2, t3].map Dat.int)), s10, .fz (.int (t0 / W)), .fz (.int (t1 / W)), .fz (.int (t2 / W)), .fz (.int (t3 / W)), .un, .un]
    have d0 := div (t0 / W) (t1 / W) (t2 / W) (t3 / W) (Int.ediv_mul_cancel (Int.dvd_of_emod_eq_zero z0)) (Int.ediv_mul_cancel (Int.dvd_of_emod_eq_zero z1)) (Int.ediv_mul_cancel (Int.dvd_of_emod_eq_zero z2)) (Int.ediv_mul_cancel (Int.dvd_of_emod_eq_zero z3))
    have uq : ∀ m : Mv, (act m a0 = b0 ∧ act m a1 = b1 ∧ act m a2 = b2) → m.a = t0 / W ∧ m.b = t1 / W ∧ m.c = t2 / W ∧ m.d = t3 / W := by
      intro m h
      obtain ⟨g0, g1, g2, g3⟩ := mul m ((lin m h.1).mp h.2)
      have ne : W ≠ 0 := by omega
      rw [g0, g1, g2, g3, Int.mul_ediv_cancel _ ne, Int.mul_ediv_cancel _ ne, Int.mul_ediv_cancel _ ne, Int.mul_ediv_cancel _ ne]
      exact ⟨rfl, rfl, rfl, rfl⟩
    have c0 : Bt 810 (t0 / W) := bt0.ediv
    have c1 : Bt 810 (t1 / W) := bt1.ediv
    have c2 : Bt 810 (t2 / W) := bt2.ediv
    have c3 : Bt 810 (t3 / W) := bt3.ediv
    generalize t0 / W = a at *
    generalize t1 / W = b at *
    generalize t2 / W = c at *
    generalize t3 / W = d at *
    refine ⟨mulok c0 c3 rfl, mulok c1 c2 rfl, ⟨rfl, rfl⟩, ifNe (fun ne => ⟨rfl, kn' fun m im h => ?_⟩) fun e => ?_⟩
    · obtain ⟨g0, g1, g2, g3⟩ := uq m h
      unfold IsMv det at im
      rw [g0, g1, g2, g3] at im
      split at ne <;> omega
    · have im : a * d - b * c = 1 ∨ a * d - b * c = -1 := by split at e <;> omega
      have ax := ba'.x
      have ay := ba'.y
      have bx := bo'.x
      have by' := bo'.y
      refine onS_some j0 (onS_some rfl (onS_some i0 (onS_some rfl ⟨mulok c0 ax rfl, onS_some i0 (onS_some rfl ⟨mulok c1 ay rfl, ?_⟩)⟩)))
      refine onS_some j0 (onS_some rfl (onS_some i0 (onS_some rfl ⟨mulok c2 ax rfl, onS_some i0 (onS_some rfl ⟨mulok c3 ay rfl, ?_⟩)⟩)))
      have h0 : act ⟨a, b, c, d, b0.1 - a * a0.1 - b * a0.2, b0.2 - c * a0.1 - d * a0.2⟩ a0 = b0 := by
        unfold act; refine Prod.ext ?_ ?_ <;> dsimp only <;> omega
      have bm : BM 3000 ⟨a, b, c, d, b0.1 - a * a0.1 - b * a0.2, b0.2 - c * a0.1 - d * a0.2⟩ := ⟨c0.mono (by decide), c1.mono (by decide), c2.mono (by decide), c3.mono (by decide), ((bx.sub (c0.mul ax)).sub (c1.mul ay)).mono (by decide), ((by'.sub (c2.mul ax)).sub (c3.mul ay)).mono (by decide)⟩
      refine ⟨rfl, rfl, kk' ⟨a, b, c, d, b0.1 - a * a0.1 - b * a0.2, b0.2 - c * a0.1 - d * a0.2⟩ im bm ⟨h0, (lin _ h0).mpr d0⟩ fun m' h' => ?_⟩
      obtain ⟨g0, g1, g2, g3⟩ := uq m' h'
      have hb := h'.1
      obtain ⟨a', b', c', d', e', f'⟩ := m'
      have g0 : a' = a := g0
      have g1 : b' = b := g1
      have g2 : c' = c := g2
      have g3 : d' = d := g3
      subst g0 g1 g2 g3
      unfold act at hb
      have x1 := congrArg Prod.fst hb
      have x2 := congrArg Prod.snd hb
      dsimp only at x1 x2
      have y1 : e' = b0.1 - a' * a0.1 - b' * a0.2 := by omega
      have y2 : f' = b0.2 - c' * a0.1 - d' * a0.2 := by omega
      rw [y1, y2]
  refine ⟨rfl, ?_⟩
  show sForL (gN 10) b_L_tried_1 _ ([t0, t1, t2, t3].map Dat.int) _
  refine for_map (f := Dat.int) (xs := [t0, t1, t2, t3]) (fun i ρ => (∃ s10, ρ = [.br ((hull A).map pt), .br ((hull B).map pt), .fz (.int (k : Int)), .fz (.int w), .fz (pt (px, py)), .fz (pt (qx, qy)), .fz (pt (rx, ry)), .fz (pt (sx, sy)), .fz (.int W), .fz (.lst ([t0, t1, t2, t3].map Dat.int)), s10, .un, .un, .un, .un, .un, .un]) ∧ ∀ (j : Nat) (t : Int), j < i → [t0, t1, t2, t3][j]? = some t → t % W = 0) ⟨⟨_, rfl⟩, fun j t h => absurd h (Nat.not_lt_zero _)⟩ (fun i t ρ N ht hI hN => ?_) (fun ρ hI => ?_)
  · obtain ⟨⟨s10, rfl⟩, hz⟩ := hI
    refine ⟨w0, ⟨rfl, rfl⟩, ifNe (fun ne => ⟨rfl, kn' fun m im h => ?_⟩) fun e => hN _ ⟨⟨_, rfl⟩, fun j u hj hu => ?_⟩⟩
    · obtain ⟨g0, g1, g2, g3⟩ := mul m ((lin m h.1).mp h.2)
      have := List.mem_of_getElem? ht
      simp only [List.mem_cons, List.not_mem_nil, or_false] at this
      rcases this with rfl | rfl | rfl | rfl
      · exact ne (by rw [g0]; exact Int.mul_emod_left _ _)
      · exact ne (by rw [g1]; exact Int.mul_emod_left _ _)
      · exact ne (by rw [g2]; exact Int.mul_emod_left _ _)
      · exact ne (by rw [g3]; exact Int.mul_emod_left _ _)
    · by_cases z : j = i
      · subst z; rw [ht] at hu; cases hu; exact e
      · exact hz j u (by omega) hu
  · obtain ⟨⟨s10, rfl⟩, hz⟩ := hI
    exact fin s10 (hz 0 _ (by simp) rfl) (hz 1 _ (by simp) rfl) (hz 2 _ (by simp) rfl) (hz 3 _ (by simp) rfl)
end Py
-- plain: DLq DLs DLt DLv DLzd PNum PEq PMov PTurn PTri PSelf PHull PGeo PGeo2 PGeo3 PGeo4 PRound PLex PWhere PBest PSpan PSort PHrt PHrt2 PHrt3 PHrt4 PHrt5 POrd PForm PPut PGreat POwn POwn2 PFits
namespace Py
open PySem PySem.Spec PyProof.Rows L2 DL Hull Hrt Mov Frm Put
theorem pick_two {n : Nat} {lo : Int} (hlo : lo = 3 ∨ lo = 4) : (pickN n (some lo) (some 60) (some 2)).length ≤ 29 := by
  have e : sliceBounds (some lo) (some 60) (some 2) n = ((max 0 (min lo (n : Int)), max 0 (min 60 (n : Int)), (2 : Int)) : Int × Int × Int) := by rcases hlo with rfl | rfl <;> rfl
  unfold pickN
  rw [e]
  unfold sliceRange
  rw [List.length_map, List.length_range]
  dsimp only
  rw [if_pos (show (2 : Int) > 0 by decide)]
  split <;> omega
inductive S_L_window : List Dat → (Rv → Prop) → (Str → Prop) → Prop
  | mk {κ : Rv → Prop} {ε : Str → Prop} (ns : List Int) (lo : Int) (hs : Scr ns) (hlo : lo = 3 ∨ lo = 4) (k : ∀ X : List Pt, X.length ≤ 32 → (0, 0) ∈ X → (1, 0) ∈ X → (0, 1) ∈ X → (∀ p ∈ X, BP 10 p) → κ (.n (X.map pt))) : S_L_window [.lst (ns.map Dat.int), .int lo] κ ε
theorem sem_L_window : ∀ ds κ ε, S_L_window ds κ ε → d_L_window S_L_cell_at (endsOf κ ε) (entry ms_L_window 7 ds) := by
  intro ds κ ε h
  obtain ⟨ns, lo, hs, hlo, k⟩ := h
  show d_L_window _ _ [.br (ns.map Dat.int), .fz (.int lo), .un, .un, .un, .un, .un]
  have b0 := cAt_bt hs 0
  refine .mk ns 0 hs (by decide) ?_
  refine ⟨by walk_at "side", ?_⟩
  walk_at "nz"
  refine ⟨by walk_at "side", by walk_at "side", by walk_at "side", ?_⟩
  generalize cAt ns 0 / 4 = sh at *
  show t_L_window_3 S_L_cell_at (endsOf κ ε) [.br (ns.map Dat.int), .fz (.int lo), .fz (.int sh), .fz (.int (2 + sh % 4)), .fz (.int (2 + sh / 4 % 3)), .un, .un]
  have w2 : 2 ≤ 2 + sh % 4 ∧ 2 + sh % 4 ≤ 5 := by omega
  have h2 : 2 ≤ 2 + sh / 4 % 3 ∧ 2 + sh / 4 % 3 ≤ 5 := by omega
  generalize 2 + sh % 4 = wi at *
  generalize 2 + sh / 4 % 3 = hi at *
  have bw : Bt 10 wi := by rw [Bt.def]; omega
  have hw : 0 < wi := by omega
  have hh : 0 < hi := by omega
  refine ⟨rfl, rfl, rfl, rfl, ?_⟩
  show t_L_window_4 S_L_cell_at (endsOf κ ε) [.br (ns.map Dat.int), .fz (.int lo), .fz (.int sh), .fz (.int wi), .fz (.int hi), .ow ([((0 : Int), (0 : Int)), (1, 0), (0, 1)].map pt), .un]
  refine ⟨by decide, rfl, ?_⟩
  show sForL (gN 6) b_L_window_1 _ (pickL (ns.map Dat.int) (some lo) (some 60) (some 2)) [.br (ns.map Dat.int), .fz (.int lo), .fz (.int sh), .fz (.int wi), .fz (.int hi), .ow ([((0 : Int), (0 : Int)), (1, 0), (0, 1)].map pt), .un]
  rw [pick_map]
  have hX : (pickL ns (some lo) (some 60) (some 2)).length ≤ 29 := Nat.le_trans (pick_len _ _ _ _) (pick_two hlo)
  have hbt : ∀ z ∈ pickL ns (some lo) (some 60) (some 2), Bt 1048577 z := fun z hz => hs.bt z (pick_mem hz)
  generalize pickL ns (some lo) (some 60) (some 2) = cs at *
  refine for_map (f := Dat.int) (xs := cs) (fun i ρ => ∃ (X : List Pt) (ds : List Dat) (s6 : Sl), ρ = [.br (ns.map Dat.int), .fz (.int lo), .fz (.int sh), .fz (.int wi), .fz (.int hi), .ow ds, s6] ∧ ds = X.map pt ∧ X.length ≤ 3 + i ∧ (∀ p ∈ X, BP 10 p) ∧ (0, 0) ∈ X ∧ (1, 0) ∈ X ∧ (0, 1) ∈ X) ⟨_, _, _, rfl, rfl, by simp, fun p hp => ?_, by decide, by decide, by decide⟩ (fun i c ρ N hc h hN => ?_) (fun ρ h => ?_)
  · simp only [List.mem_cons, List.not_mem_nil, or_false] at hp
    rcases hp with rfl | rfl | rfl <;> exact ⟨Bt.lit (by decide), Bt.lit (by decide)⟩
  · obtain ⟨X, ds, s6, rfl, rfl, lX, hX', xo, xi, xj⟩ := h
    have bc := hbt c (List.mem_of_getElem? hc)
    have hi' : i < cs.length := by
      by_cases y : i < cs.length
      · exact y
      · rw [List.getElem?_eq_none (by omega)] at hc; exact nomatch hc
    have bh : Bt 10 hi := by rw [Bt.def]; omega
    refine ⟨hw, ⟨hw, (bw.mono (by decide : 10 ≤ 9000)).log2 (by decide)⟩, hh, rfl, szm (by omega), ?_⟩
    refine hN _ ⟨X ++ [(c % wi, c / wi % hi)], _, _, rfl, map_snoc pt X (c % wi, c / wi % hi), by rw [List.length_append]; show X.length + 1 ≤ _; omega, fun p hp => ?_, List.mem_append.mpr (.inl xo), List.mem_append.mpr (.inl xi), List.mem_append.mpr (.inl xj)⟩
    rcases List.mem_append.mp hp with y | y
    · exact hX' p y
    · rw [List.mem_singleton.mp y]
      exact ⟨Bt.emodm hw bw, Bt.emodm hh bh⟩
  · obtain ⟨X, ds, s6, rfl, rfl, lX, hX', xo, xi, xj⟩ := h
    exact k X (by omega) xo xi xj hX'
inductive S_L_turned_number : List Dat → (Rv → Prop) → (Str → Prop) → Prop
  | mk {κ : Rv → Prop} {ε : Str → Prop} (a n : Int) (hn : 2 ≤ n) (ba : Bt 70 a) (bn : Bt 70 n) (k : ∀ r : Int, 0 ≤ r → r < n → κ (.v (.int r))) : S_L_turned_number [.int a, .int n] κ ε
theorem sem_L_turned_number : ∀ ds κ ε, S_L_turned_number ds κ ε → d_L_turned_number (endsOf κ ε) (entry ms_L_turned_number 7 ds) := by
  intro ds κ ε h
  obtain ⟨a, n, hn, ba, bn, k⟩ := h
  show d_L_turned_number (endsOf κ ε) [.fz (.int a), .fz (.int n), .un, .un, .un, .un, .un]
  have n0 : 0 < n := by omega
  refine ⟨n0, ?_⟩
  show sWhile b_L_turned_number_1 b_L_turned_number_2 _ [.fz (.int a), .fz (.int n), .fz (.int n), .fz (.int (a % n)), .fz (.int 0), .fz (.int 1), .un]
  have e0 := Int.emod_nonneg a (show n ≠ 0 by omega)
  have e1 := Int.emod_lt_of_pos a n0
  refine while_ind (fun q ρ => ∃ (h l u v g : Int) (s6 : Sl), ρ = [.fz (.int a), .fz (.int n), .fz (.int h), .fz (.int l), .fz (.int (-(g * u))), .fz (.int (g * v)), s6] ∧ q = l.toNat ∧ 0 ≤ l ∧ l < h ∧ h ≤ n ∧ 0 ≤ u ∧ 0 ≤ v ∧ (g = 1 ∨ g = -1) ∧ u * l + v * h = n) (a % n).toNat ⟨n, a % n, 0, 1, 1, .un, rfl, rfl, e0, e1, Int.le_refl _, by omega, by omega, .inl rfl, by omega⟩ ?_
  rintro q _ R ⟨h, l, u, v, g, s6, rfl, rfl, l0, lh, hn', u0, v0, hg, e⟩ hr
  refine ifd (fun z => ?_) fun z => ?_
  · have z : 0 < l := z
    have bl : Bt 70 l := bn.le_abs (by omega)
    have bh : Bt 70 h := bn.le_abs (by omega)
    have hu : u ≤ n := by
      have h1 : u * 1 ≤ u * l := Int.mul_le_mul_of_nonneg_left (by omega) u0
      have h2 : 0 ≤ v * h := Int.mul_nonneg v0 (by omega)
      omega
    have hv : v ≤ n := by
      have h1 : v * 1 ≤ v * h := Int.mul_le_mul_of_nonneg_left (by omega) v0
      have h2 : 0 ≤ u * l := Int.mul_nonneg u0 (by omega)
      omega
    have bu : Bt 70 u := bn.le_abs (by omega)
    have bv : Bt 70 v := bn.le_abs (by omega)
    have bt : Bt 70 (h / l) := bh.ediv
    have t0 : 0 ≤ h / l := Int.ediv_nonneg (by omega) (by omega)
    have ed : h - h / l * l = h % l := by have := Int.mul_ediv_add_emod h l; have c := Int.mul_comm l (h / l); omega
    have m0 := Int.emod_nonneg h (show l ≠ 0 by omega)
    have m1 := Int.emod_lt_of_pos h z
    have bg : Bt 1 g := by rcases hg with rfl | rfl <;> exact Bt.lit (by decide)
    have bgv := bg.mul bv
    refine ⟨⟨z, (bl.mono (by decide : 70 ≤ 9000)).log2 (by decide)⟩, ?_⟩
    refine ⟨mulok bt bl rfl, ?_⟩
    refine ⟨mulok bt bgv rfl, ?_⟩
    refine hr (h % l).toNat _ (by omega) ⟨l, h % l, v, u + h / l * v, -g, .fz (.int (h / l)), ?_, rfl, m0, m1, by omega, v0, ?_, by omega, ?_⟩
    · show [_, _, Sl.fz (.int l), Sl.fz (.int (h - h / l * l)), Sl.fz (.int (g * v)), Sl.fz (.int (-(g * u) - h / l * (g * v))), _] = [_, _, _, _, Sl.fz (.int (-(-g * v))), Sl.fz (.int (-g * (u + h / l * v))), _]
      rw [ed, Int.neg_mul, Int.neg_neg, show -(g * u) - h / l * (g * v) = -g * (u + h / l * v) by grind]
    · have := Int.mul_nonneg t0 v0; omega
    · have : (u + h / l * v) * l + v * (h % l) = u * l + v * (h / l * l + h % l) := by grind
      have d : h / l * l + h % l = h := by omega
      have := Int.mul_comm v (h % l)
      have := Int.mul_comm (u + h / l * v) l
      rw [d] at *
      grind
  · refine ⟨n0, rfl, k _ (Int.emod_nonneg _ (by omega)) (Int.emod_lt_of_pos _ n0)⟩

/-- what the law's two fields hold -/
structure Two (X : List Pt) : Prop where
  l : X.length ≤ 40
  s : ∃ o p q, o ∈ X ∧ p ∈ X ∧ q ∈ X ∧ span o p q ≠ 0
  b : ∀ p ∈ X, BP 80 p
inductive S_L_slim : List Dat → (Rv → Prop) → (Str → Prop) → Prop
  | mk {κ : Rv → Prop} {ε : Str → Prop} (ns : List Int) (hs : Scr ns) (k : ∀ X Y : List Pt, Two X → Two Y → κ (.v (.tup [.lst (X.map pt), .lst (Y.map pt)]))) : S_L_slim [.lst (ns.map Dat.int)] κ ε
theorem two_slim {b n : Int} (hn : 2 ≤ n) (bn : Bt 70 n) (bb : Bt 75 b) : Two [(0, 0), (1, 0), (b, n)] := by
  refine ⟨by simp, ⟨(0, 0), (1, 0), (b, n), by simp, by simp, by simp, by unfold span; dsimp only; omega⟩, fun p hp => ?_⟩
  simp only [List.mem_cons, List.not_mem_nil, or_false] at hp
  rcases hp with rfl | rfl | rfl
  · exact ⟨Bt.lit (by decide), Bt.lit (by decide)⟩
  · exact ⟨Bt.lit (by decide), Bt.lit (by decide)⟩
  · exact ⟨bb.mono (by decide), bn.mono (by decide)⟩
theorem sem_L_slim : ∀ ds κ ε, S_L_slim ds κ ε → d_L_slim S_L_cell_at S_L_turned_number (endsOf κ ε) (entry ms_L_slim 5 ds) := by
  intro ds κ ε h
  obtain ⟨ns, hs, k⟩ := h
  show d_L_slim _ _ _ [.br (ns.map Dat.int), .un, .un, .un, .un]
  have b0 := cAt_bt hs 0
  have b3 := cAt_bt hs 3
  have b4 := cAt_bt hs 4
  have b5 := cAt_bt hs 5
  have t2 : ∀ n : Int, 2 ≤ n → n ≤ 10 ^ 20 + 2 → t_L_slim_2 S_L_cell_at S_L_turned_number (endsOf κ ε) [.br (ns.map Dat.int), .fz (.int n), .un, .un, .un] := by
    intro n hn hn2
    have bn : Bt 70 n := by rw [Bt.def]; omega
    have n0 : 0 < n := by omega
    refine .mk ns 4 hs (by decide) ?_
    refine ⟨n0, ?_⟩
    have ba : Bt 70 (cAt ns 4 % n) := Bt.emodm n0 bn
    walk_at "nz"
    refine .mk ns 0 hs (by decide) ?_
    refine ⟨by walk_at "side", by walk_at "side", ?_⟩
    show t_L_slim_4 S_L_cell_at S_L_turned_number (endsOf κ ε) [.br (ns.map Dat.int), .fz (.int n), .fz (.int (cAt ns 4 % n)), .fz (.int (cAt ns 0 / 8 % 5)), .un]
    have hw : 0 ≤ cAt ns 0 / 8 % 5 ∧ cAt ns 0 / 8 % 5 < 5 := by omega
    generalize cAt ns 0 / 8 % 5 = w at *
    generalize cAt ns 4 % n = a at *
    refine .mk ns 5 hs (by decide) ?_
    refine ⟨n0, ?_⟩
    have bx : Bt 70 (cAt ns 5 % n) := Bt.emodm n0 bn
    refine .mk a n hn ba bn fun r r0 r1 => ?_
    refine .mk a n hn ba bn fun r' r0' r1' => ?_
    have br : Bt 70 r := bn.le_abs (by omega)
    have br' : Bt 70 r' := bn.le_abs (by omega)
    have b1 : Bt 2 1 := Bt.lit (by decide)
    have b0' : Bt 2 0 := Bt.lit (by decide)
    have fin : ∀ b : Int, Bt 75 b → t_L_slim_5 S_L_cell_at S_L_turned_number (endsOf κ ε) [.br (ns.map Dat.int), .fz (.int n), .fz (.int a), .fz (.int w), .fz (.int b)] := by
      intro b bb
      refine ⟨rfl, rfl, rfl, rfl, rfl, rfl, rfl, rfl, rfl, rfl, ?_⟩
      exact k [(0, 0), (1, 0), (a, n)] [(0, 0), (1, 0), (b, n)] (two_slim hn bn (ba.mono (by decide))) (two_slim hn bn bb)
    have hw' : w = 0 ∨ w = 1 ∨ w = 2 ∨ w = 3 ∨ w = 4 := by omega
    refine ⟨rfl, ?_⟩
    rcases hw' with rfl | rfl | rfl | rfl | rfl
    · refine onS_some (x := .int (cAt ns 5 % n)) rfl ?_
      exact fin _ (bx.mono (by decide))
    · refine onS_some (x := .int (1 - a)) rfl ?_
      exact fin _ ((b1.sub ba).mono (by decide))
    · refine onS_some (x := .int (0 - a)) rfl ?_
      exact fin _ ((b0'.sub ba).mono (by decide))
    · refine onS_some (x := .int r) rfl ?_
      exact fin _ (br.mono (by decide))
    · refine onS_some (x := .int (1 - r')) rfl ?_
      exact fin _ ((b1.sub br').mono (by decide))
  refine .mk ns 3 hs (by decide) ?_
  refine ⟨by walk_at "side", by walk_at "side", ?_⟩
  walk_at "nz"
  refine .mk ns 0 hs (by decide) ?_
  refine ⟨by walk_at "side", by walk_at "side", ⟨rfl, rfl⟩, ifEq (fun z => ?_) fun z => ?_⟩
  · refine .mk ns 3 hs (by decide) ?_
    refine ⟨by walk_at "side", ?_⟩
    exact t2 (2 + cAt ns 3 % 30) (by omega) (by omega)
  · exact t2 (2 + cAt ns 3 % 10 ^ 20) (by omega) (by omega)
inductive S_L_two : List Dat → (Rv → Prop) → (Str → Prop) → Prop
  | mk {κ : Rv → Prop} {ε : Str → Prop} (ns : List Int) (hs : Scr ns) (k : ∀ X Y : List Pt, Two X → Two Y → κ (.v (.tup [.lst (X.map pt), .lst (Y.map pt)]))) : S_L_two [.lst (ns.map Dat.int)] κ ε
theorem sem_L_two : ∀ ds κ ε, S_L_two ds κ ε → d_L_two S_L_cell_at S_L_slim S_L_window (endsOf κ ε) (entry ms_L_two 6 ds) := by
  intro ds κ ε h
  obtain ⟨ns, hs, k⟩ := h
  show d_L_two _ _ _ _ [.br (ns.map Dat.int), .un, .un, .un, .un, .un]
  have b0 := cAt_bt hs 0
  have b3 := cAt_bt hs 3
  have b4 := cAt_bt hs 4
  have b5 := cAt_bt hs 5
  have b6 := cAt_bt hs 6
  refine .mk ns 0 hs (by decide) ?_
  refine ⟨by walk_at "side", ?_⟩
  walk_at "nz"
  show t_L_two_1 S_L_cell_at S_L_slim S_L_window (endsOf κ ε) [.br (ns.map Dat.int), .fz (.int (cAt ns 0 % 4)), .un, .un, .un, .un]
  generalize cAt ns 0 % 4 = kind at *
  refine ⟨⟨rfl, rfl⟩, ifEq (fun z => ?_) fun z => ?_⟩
  · exact .mk ns hs fun X Y tX tY => ⟨rfl, k X Y tX tY⟩
  have wt : ∀ X : List Pt, X.length ≤ 32 → (0, 0) ∈ X → (1, 0) ∈ X → (0, 1) ∈ X → (∀ p ∈ X, BP 10 p) → Two X := fun X l o i j b => ⟨by omega, ⟨_, _, _, o, i, j, by decide⟩, fun p hp => (b p hp).mono (by decide)⟩
  refine .mk ns 3 hs (.inl rfl) fun X lX xo xi xj bX => ?_
  have tX := wt X lX xo xi xj bX
  show t_L_two_3 S_L_cell_at S_L_slim S_L_window (endsOf κ ε) [.br (ns.map Dat.int), .fz (.int kind), .ow (X.map pt), .un, .un, .un]
  refine ⟨⟨rfl, rfl⟩, ifEq (fun z => ?_) fun z => ?_⟩
  · refine .mk ns 3 hs (by decide) ?_
    refine ⟨by walk_at "side", ?_⟩
    walk_at "nz"
    refine .mk ns 4 hs (by decide) ?_
    refine ⟨by walk_at "side", ?_⟩
    have hx : 2 ≤ 2 + cAt ns 3 % 9 ∧ 2 + cAt ns 3 % 9 < 12 := by omega
    have hy : 2 ≤ 2 + cAt ns 4 % 9 ∧ 2 + cAt ns 4 % 9 < 12 := by omega
    have hc : 0 ≤ cAt ns 5 % 4 ∧ cAt ns 5 % 4 < 4 := by omega
    have hd : 0 ≤ cAt ns 6 % 4 ∧ cAt ns 6 % 4 < 4 := by omega
    refine ⟨rfl, rfl, rfl, ?_⟩
    walk_at "nz"
    refine .mk ns 5 hs (by decide) ?_
    refine ⟨by walk_at "side", rfl, rfl, ?_⟩
    refine ⟨rfl, rfl, rfl, ?_⟩
    refine .mk ns 6 hs (by decide) ?_
    refine ⟨by walk_at "side", rfl, rfl, rfl, rfl, ?_⟩
    generalize 2 + cAt ns 3 % 9 = x at *
    generalize 2 + cAt ns 4 % 9 = y at *
    generalize cAt ns 5 % 4 = c at *
    generalize cAt ns 6 % 4 = d at *
    refine k [(0, 0), (x, 0), (0, y), (x + c, y)] [(0, 0), (x, 0), (0, y), (x, y + d)] ?_ ?_
    · refine ⟨by simp, ⟨(0, 0), (x, 0), (0, y), by simp, by simp, by simp, ?_⟩, fun p hp => ?_⟩
      · have : 0 < x * y := Int.mul_pos (by omega) (by omega)
        unfold span; dsimp only; simp; omega
      · simp only [List.mem_cons, List.not_mem_nil, or_false] at hp
        rcases hp with rfl | rfl | rfl | rfl <;> exact ⟨by rw [Bt.def]; dsimp only; omega, by rw [Bt.def]; dsimp only; omega⟩
    · refine ⟨by simp, ⟨(0, 0), (x, 0), (0, y), by simp, by simp, by simp, ?_⟩, fun p hp => ?_⟩
      · have : 0 < x * y := Int.mul_pos (by omega) (by omega)
        unfold span; dsimp only; simp; omega
      · simp only [List.mem_cons, List.not_mem_nil, or_false] at hp
        rcases hp with rfl | rfl | rfl | rfl <;> exact ⟨by rw [Bt.def]; dsimp only; omega, by rw [Bt.def]; dsimp only; omega⟩
  refine ⟨⟨rfl, rfl⟩, ifEq (fun z => ?_) fun z => ?_⟩
  · refine ⟨rfl, ?_⟩
    refine lc_map (xs := X) (f := pt) (h := fun p => pt (3 - p.2, p.1)) (by omega) (fun p N hp hN => ?_) ?_
    · exact onS_some rfl (onS_some rfl ⟨rfl, hN⟩)
    have e : X.map (fun p => pt (3 - p.2, p.1)) = (X.map fun p => (3 - p.2, p.1)).map pt := by rw [List.map_map]; rfl
    rw [e]
    refine ⟨rfl, rfl, k X _ tX ⟨by rw [List.length_map]; omega, ⟨_, _, _, List.mem_map.mpr ⟨_, xo, rfl⟩, List.mem_map.mpr ⟨_, xi, rfl⟩, List.mem_map.mpr ⟨_, xj, rfl⟩, by decide⟩, fun p hp => ?_⟩⟩
    obtain ⟨q, hq, rfl⟩ := List.mem_map.mp hp
    have bq := bX q hq
    exact ⟨((Bt.lit (k := 2) (by decide)).sub bq.y).mono (by decide), bq.x.mono (by decide)⟩
  · refine .mk ns 4 hs (.inr rfl) fun Y lY yo yi yj bY => ?_
    exact ⟨rfl, rfl, k X Y tX (wt Y lY yo yi yj bY)⟩
/-- the law's leaning -/
def lnA (ns : List Int) (k : Int) : Int := cAt ns k % (2 * 10 ^ 20 + 1) - 10 ^ 20
def lnM (ns : List Int) : Mv := ⟨1 + lnA ns 2 * lnA ns 1, lnA ns 2, lnA ns 1, 1, 0, 0⟩
theorem lnA_bt (ns : List Int) (k : Int) : Bt 68 (lnA ns k) := by
  unfold lnA
  rw [Bt.def]
  omega
theorem lnM_mv (ns : List Int) : IsMv (lnM ns) := by
  left
  unfold det lnM
  dsimp only
  grind
theorem lnM_bm (ns : List Int) : BM 140 (lnM ns) := by
  have a := lnA_bt ns 1
  have b := lnA_bt ns 2
  have o : Bt 2 1 := Bt.lit (by decide)
  have z : Bt 2 0 := Bt.lit (by decide)
  exact ⟨(o.add (b.mul a)).mono (by decide), b.mono (by decide), a.mono (by decide), o.mono (by decide), z.mono (by decide), z.mono (by decide)⟩
inductive S_L_lean : List Dat → (Rv → Prop) → (Str → Prop) → Prop
  | mk {κ : Rv → Prop} {ε : Str → Prop} (ns : List Int) (p : Pt) (hs : Scr ns) (bp : BP 80 p) (k : κ (.v (pt (act (lnM ns) p)))) : S_L_lean [pt p, .lst (ns.map Dat.int)] κ ε
theorem sem_L_lean : ∀ ds κ ε, S_L_lean ds κ ε → d_L_lean S_L_cell_at (endsOf κ ε) (entry ms_L_lean 4 ds) := by
  intro ds κ ε h
  obtain ⟨ns, p, hs, bp, k⟩ := h
  show d_L_lean _ _ [.fz (pt p), .br (ns.map Dat.int), .un, .un]
  have b1 := cAt_bt hs 1
  have b2 := cAt_bt hs 2
  have l1 := lnA_bt ns 1
  have l2 := lnA_bt ns 2
  have bx := bp.x
  have by' := bp.y
  have e1 : act (lnM ns) p = (p.1 + lnA ns 2 * (p.2 + lnA ns 1 * p.1), p.2 + lnA ns 1 * p.1) := by
    unfold act lnM
    refine Prod.ext ?_ ?_ <;> dsimp only <;> grind
  rw [e1] at k
  refine ⟨rfl, ?_⟩
  refine .mk ns 1 hs (by decide) ?_
  refine ⟨by walk_at "side", ?_⟩
  refine ⟨by walk_at "side", ?_⟩
  refine ⟨by walk_at "side", ?_⟩
  refine ⟨by walk_at "side", ?_⟩
  refine ⟨mulok l1 bx rfl, ?_⟩
  show t_L_lean_2 S_L_cell_at (endsOf κ ε) [.fz (pt p), .br (ns.map Dat.int), .fz (.int p.1), .fz (.int (p.2 + lnA ns 1 * p.1))]
  have by2 : Bt 160 (p.2 + lnA ns 1 * p.1) := (by'.add (l1.mul bx)).mono (by decide)
  refine .mk ns 2 hs (by decide) ?_
  refine ⟨by walk_at "side", ?_⟩
  refine ⟨by walk_at "side", ?_⟩
  refine ⟨by walk_at "side", ?_⟩
  refine ⟨by walk_at "side", ?_⟩
  refine ⟨mulok l2 by2 rfl, ?_⟩
  exact ⟨rfl, rfl, k⟩
inductive S_L_takes : List Dat → (Rv → Prop) → (Str → Prop) → Prop
  | mk {κ : Rv → Prop} {ε : Str → Prop} (m : Mv) (X Y : List Pt) (im : IsMv m) (bm : BM 20000 m) (hl : (hull X).length < 64) (hb : ∀ p ∈ hull X, BP 20000 p) (kt : Takes X Y m → κ (.v (.bl true))) (kf : ¬ Takes X Y m → κ (.v (.bl false))) : S_L_takes [mv m, .lst ((hull X).map pt), .lst ((hull Y).map pt)] κ ε
theorem sem_L_takes : ∀ ds κ ε, S_L_takes ds κ ε → d_L_takes S_L_by (endsOf κ ε) (entry ms_L_takes 4 ds) := by
  intro ds κ ε h
  obtain ⟨m, X, Y, im, bm, hl, hb, kt, kf⟩ := h
  show d_L_takes _ _ [.fz (mv m), .br ((hull X).map pt), .br ((hull Y).map pt), .un]
  refine ⟨rfl, ?_⟩
  refine lc_map (xs := hull X) (f := pt) (h := fun z => pt (act m z)) (by omega) (fun z N hx hN => .mk m z bm (hb z hx) hN) ?_
  have ep : (hull X).map (fun z => pt (act m z)) = ((hull X).map (act m)).map pt := by rw [List.map_map]; rfl
  rw [ep]
  refine ⟨kd_pt.srt _, kd_pt.srt _, ?_⟩
  obtain ⟨ys, ey, py, _⟩ := kd_pt.sort ((hull X).map (act m))
  obtain ⟨zs, ez, pz, _⟩ := kd_pt.sort (hull Y)
  rw [ey, ez]
  refine ⟨⟨shp_pts _ _, shp_pts _ _⟩, rfl, ?_⟩
  show κ (.v (.bl (eqD (.lst (ys.map pt)) (.lst (zs.map pt)))))
  rw [eqD_pts]
  by_cases e : ys = zs
  · rw [decide_eq_true e]
    exact kt ((takes_perm im).mpr ((py.symm.trans (by rw [e])).trans pz))
  · rw [decide_eq_false e]
    refine kf fun t => e ?_
    have e1 := kd_pt.sort_perm ((takes_perm im).mp t)
    rw [ey, ez] at e1
    have := congrArg (fun ds => eqD (.lst ds) (.lst (zs.map pt))) e1
    rw [eqD_pts, eqD_pts, decide_eq_true rfl] at this
    exact of_decide_eq_true this
inductive S_L_any : List Dat → (Rv → Prop) → (Str → Prop) → Prop
  | mk {κ : Rv → Prop} {ε : Str → Prop} (X Y : List Pt) (h0 : X ≠ []) (h3 : 3 ≤ (hull X).length) (xl : (hull X).length < 64) (yl : (hull Y).length < 64) (xb : ∀ p ∈ hull X, BP 400 p) (yb : ∀ p ∈ hull Y, BP 400 p) (kt : ∀ m, Takes X Y m → κ (.v (.bl true))) (kf : (∀ m, ¬ Takes X Y m) → κ (.v (.bl false))) : S_L_any [.lst ((hull X).map pt), .lst ((hull Y).map pt)] κ ε
theorem tried_go {A B : List Pt} {k : Nat} {z w : Int} {κ : Rv → Prop} {ε : Str → Prop} (e : z = (k : Int)) (h : S_L_tried [.lst ((hull A).map pt), .lst ((hull B).map pt), .int (k : Int), .int w] κ ε) : S_L_tried [.lst ((hull A).map pt), .lst ((hull B).map pt), .int z, .int w] κ ε := by rw [e]; exact h
theorem sem_L_any : ∀ ds κ ε, S_L_any ds κ ε → d_L_any S_L_tried S_L_takes (endsOf κ ε) (entry ms_L_any 5 ds) := by
  intro ds κ ε h
  obtain ⟨X, Y, h0, h3, xl, yl, xb, yb, kt, kf⟩ := h
  show d_L_any _ _ _ [.br ((hull X).map pt), .br ((hull Y).map pt), .un, .un, .un]
  refine ⟨⟨rfl, rfl⟩, ifNe (fun ne => ?_) fun e => ?_⟩
  · refine ⟨rfl, kf fun m t => ne ?_⟩
    have := takes_len h0 t
    show (((hull X).map pt).length : Int) = (((hull Y).map pt).length : Int)
    rw [List.length_map, List.length_map]
    omega
  have ely : (((hull Y).map pt).length : Int) = ((hull Y).length : Int) := by rw [List.length_map]
  refine ⟨by show -(2 ^ 62) ≤ (((hull Y).map pt).length : Int) ∧ _; omega, ?_⟩
  have er : (((hull Y).map pt).length : Int).toNat = (hull Y).length := by omega
  show sForL _ _ _ (rngD 0 (((hull Y).map pt).length : Int).toNat) _
  rw [er]
  have body : ∀ (i : Nat) (z w : Int) (s4 : Sl) (E : DEnds), z = (i : Int) → i < (hull Y).length → (w = 1 ∨ w = -1) → E.rt = (endsOf κ ε).rt → ((∀ m, Fits (hull X) (hull Y) i w m → ¬ Takes X Y m) → ∀ s4', E.nx [.br ((hull X).map pt), .br ((hull Y).map pt), .fz (.int z), .fz (.int w), s4']) → (b_L_any_1 S_L_tried S_L_takes) E [.br ((hull X).map pt), .br ((hull Y).map pt), .fz (.int z), .fz (.int w), s4] := by
    intro i z w s4 E hz hi hw hr hE
    refine tried_go hz (.mk X Y i w h0 h3 xl hi yl hw xb yb (fun no => ?_) fun m im bm ft uq => ?_)
    · walk_at "w"
      exact hE (fun m f t => no m t.1 f) _
    · walk_at "w"
      refine .mk m X Y im (bm.mono (by decide)) xl (fun p hp => (xb p hp).mono (by decide)) (fun t => ?_) fun t => ?_
      · walk_at "w"
        refine ⟨rfl, ?_⟩
        rw [hr]
        exact kt m t
      · walk_at "w"
        exact hE (fun m' f t' => t (by rw [← uq m' f]; exact t')) _
  refine for_rng (fun i ρ => ∃ (s2 s3 s4 : Sl), ρ = [.br ((hull X).map pt), .br ((hull Y).map pt), s2, s3, s4] ∧ ∀ k w m, k < i → (w = 1 ∨ w = -1) → Fits (hull X) (hull Y) k w m → ¬ Takes X Y m) ⟨_, _, _, rfl, fun k w m h => absurd h (Nat.not_lt_zero _)⟩ (fun i ρ N hi h hN => ?_) (fun ρ h => ?_)
  · obtain ⟨s2, s3, s4, rfl, g⟩ := h
    refine ⟨rfl, rfl, ?_⟩
    show sForL (gN 3) (b_L_any_1 S_L_tried S_L_takes) _ ([1, -1].map Dat.int) [.br ((hull X).map pt), .br ((hull Y).map pt), .fz (.int (0 + (i : Int))), s3, s4]
    refine for_map (f := Dat.int) (xs := [1, -1]) (fun c ρ => ∃ (s3 s4 : Sl), ρ = [.br ((hull X).map pt), .br ((hull Y).map pt), .fz (.int (0 + (i : Int))), s3, s4] ∧ (0 < c → ∀ m, Fits (hull X) (hull Y) i 1 m → ¬ Takes X Y m) ∧ (1 < c → ∀ m, Fits (hull X) (hull Y) i (-1) m → ¬ Takes X Y m)) ⟨_, _, rfl, fun h => absurd h (by omega), fun h => absurd h (by omega)⟩ (fun c w ρ N' hw h hN' => ?_) (fun ρ h => ?_)
    · obtain ⟨s3', s4', rfl, g1, g2⟩ := h
      have hc : (c = 0 ∧ w = 1) ∨ (c = 1 ∧ w = -1) := by
        match c, hw with
        | 0, hw => left; exact ⟨rfl, by simpa using hw.symm⟩
        | 1, hw => right; exact ⟨rfl, by simpa using hw.symm⟩
        | c + 2, hw => simp at hw
      refine body i _ w s4' _ (by omega) (by omega) (by omega) rfl fun no s4' => ?_
      refine hN' _ ⟨_, _, rfl, fun _ => ?_, fun h2 => ?_⟩
      · rcases hc with ⟨rfl, rfl⟩ | ⟨rfl, rfl⟩
        · exact no
        · exact g1 (by omega)
      · rcases hc with ⟨rfl, rfl⟩ | ⟨rfl, rfl⟩
        · omega
        · exact no
    · obtain ⟨s3', s4', rfl, g1, g2⟩ := h
      refine hN _ ⟨_, _, _, rfl, fun k w m hk hw f => ?_⟩
      by_cases z : k = i
      · subst z
        rcases hw with rfl | rfl
        · exact g1 (by simp) m f
        · exact g2 (by simp) m f
      · exact g k w m (by omega) hw f
  · obtain ⟨s2, s3, s4, rfl, g⟩ := h
    refine ⟨rfl, kf fun m t => ?_⟩
    obtain ⟨k, hk, f | f⟩ := takes_fits h0 h3 t
    · exact g k 1 m hk (.inl rfl) f t
    · exact g k (-1) m hk (.inr rfl) f t
def S_law : Fsp := fun ds κ _ => ∃ ns : List Int, ds = [.lst (ns.map Dat.int)] ∧ Scr ns ∧ κ (.v (.bl true))
theorem S_law_of (ns : List Int) (κ : Rv → Prop) (ε : Str → Prop) (h : Scr ns) (k : κ (.v (.bl true))) : S_law [.lst (ns.map Dat.int)] κ ε := ⟨ns, rfl, h, k⟩
theorem sem_law : ∀ ds κ ε, S_law ds κ ε → d_law S_L_two S_L_corners S_L_lean S_alike S_L_any S_L_whole S_L_takes (endsOf κ ε) (entry ms_law 6 ds) := by
  intro ds κ ε h
  obtain ⟨ns, rfl, hs, k⟩ := h
  show d_law _ _ _ _ _ _ _ _ [.br (ns.map Dat.int), .un, .un, .un, .un, .un]
  refine .mk ns hs fun X Y tX tY => ⟨rfl, ?_⟩
  show t_law_1 S_L_two S_L_corners S_L_lean S_alike S_L_any S_L_whole S_L_takes (endsOf κ ε) [.br (ns.map Dat.int), .fz (.lst (X.map pt)), .fz (.lst (Y.map pt)), .un, .un, .un]
  obtain ⟨xo, xp, xq, x1, x2, x3, xs⟩ := tX.s
  have X3 : 3 ≤ (hull X).length := three_corners x1 x2 x3 xs
  have X0 : X ≠ [] := fun z => by rw [z] at x1; exact nomatch x1
  have XL : (hull X).length < 64 := by have := hull_len X; have := tX.l; omega
  have XB : ∀ p ∈ hull X, BP 400 p := fun p hp => (tX.b p (hull_mem hp)).mono (by decide)
  refine L_corners_go X rfl (by have := tX.l; omega) (by omega) (fun p hp => (tX.b p hp).mono (by decide)) ?_
  show t_law_2 S_L_two S_L_corners S_L_lean S_alike S_L_any S_L_whole S_L_takes (endsOf κ ε) [.br (ns.map Dat.int), .ow ((hull X).map pt), .fz (.lst (Y.map pt)), .un, .un, .un]
  refine ⟨rfl, ?_⟩
  refine lc_map (xs := Y) (f := pt) (h := fun p => pt (act (lnM ns) p)) (by have := tY.l; omega) (fun p N hp hN => .mk ns p hs (tY.b p hp) hN) ?_
  have e : Y.map (fun p => pt (act (lnM ns) p)) = (Y.map (act (lnM ns))).map pt := by rw [List.map_map]; rfl
  rw [e]
  obtain ⟨yo, yp, yq, y1, y2, y3, ys⟩ := tY.s
  have Z3 : 3 ≤ (hull (Y.map (act (lnM ns)))).length := three_corners (List.mem_map.mpr ⟨_, y1, rfl⟩) (List.mem_map.mpr ⟨_, y2, rfl⟩) (List.mem_map.mpr ⟨_, y3, rfl⟩) (by
    rw [span_act]
    rcases lnM_mv ns with z | z <;> rw [z] <;> omega)
  have ZB : ∀ p ∈ Y.map (act (lnM ns)), BP 400 p := fun p hp => by
    obtain ⟨q, hq, rfl⟩ := List.mem_map.mp hp
    exact (act_bp (lnM_bm ns) (tY.b q hq)).mono (by decide)
  have ZL : (Y.map (act (lnM ns))).length < 64 := by rw [List.length_map]; have := tY.l; omega
  generalize Y.map (act (lnM ns)) = Z at *
  have Z0 : Z ≠ [] := fun z => by rw [z] at Z3; exact absurd Z3 (by decide)
  have ZH : (hull Z).length < 64 := by have := hull_len Z; omega
  have ZHB : ∀ p ∈ hull Z, BP 400 p := fun p hp => ZB p (hull_mem hp)
  refine L_corners_go Z rfl ZL (by omega) (fun p hp => (ZB p hp).mono (by decide)) ?_
  show t_law_3 S_L_two S_L_corners S_L_lean S_alike S_L_any S_L_whole S_L_takes (endsOf κ ε) [.br (ns.map Dat.int), .ow ((hull X).map pt), .ow ((hull Z).map pt), .un, .un, .un]
  refine .mk X Z 400 (by decide) X0 Z0 XL ZH XB ZHB fun F M G N hF hG => ?_
  obtain ⟨yes, no⟩ := forms_takes X0 hF hG
  have bm := (form_bm X0 XB hF).1
  have bn := (form_bm Z0 ZHB hG).1
  have bq : BM 20000 (thn M (back N)) := (thn_bm bm (back_bm bn hG.mv)).mono (by decide)
  show t_law_4 S_L_two S_L_corners S_L_lean S_alike S_L_any S_L_whole S_L_takes (endsOf κ ε) [.br (ns.map Dat.int), .ow ((hull X).map pt), .ow ((hull Z).map pt), .un, .fz (if F = G then mv (thn M (back N)) else .non), .un]
  refine .mk X Z X0 X3 XL ZH XB ZHB (fun m t => ?_) fun nt => ?_
  · have e : F = G := Decidable.byContradiction fun ne => no ne m t
    rw [if_pos e]
    have tk := yes e
    generalize thn M (back N) = q at *
    walk_at "w"
    walk_at "eq"
    refine ⟨rfl, ?_⟩
    show lcL (gN 5) (b_law_2 S_L_whole) b_law_3 _ _ [] ([q.a, q.b, q.c, q.d, q.e, q.f].map Dat.int)
    refine lc_ind (fun i acc => acc = ([q.a, q.b, q.c, q.d, q.e, q.f].take i).map Dat.int) rfl (fun i d acc N' hd ha hn => ?_) (fun acc ha => ?_)
    · rw [List.getElem?_map] at hd
      obtain ⟨z, hz, rfl⟩ := Option.map_eq_some_iff.mp hd
      have hi : i < 6 := by
        by_cases y : i < 6
        · exact y
        · rw [List.getElem?_eq_none (by simp; omega)] at hz; exact nomatch hz
      refine ⟨_, rfl, sz_ok (by rw [ha, List.length_map, List.length_take]; omega), hn _ ?_⟩
      rw [ha, List.take_add_one, hz, List.map_append]; rfl
    · rw [ha]
      walk_at "eq"
      refine onS_some rfl (onS_some rfl ⟨mulok bq.a bq.d rfl, onS_some rfl (onS_some rfl ⟨mulok bq.b bq.c rfl, ?_⟩)⟩)
      refine ⟨⟨rfl, rfl⟩, ?_⟩
      have e1 : eqD (.int (if q.a * q.d - q.b * q.c < 0 then -(q.a * q.d - q.b * q.c) else q.a * q.d - q.b * q.c)) (.int 1) = true := by
        rw [eqD_int]
        have := tk.1
        unfold IsMv det at this
        rcases this with z | z <;> rw [z] <;> rfl
      have fin : S_L_takes [mv q, .lst ((hull X).map pt), .lst ((hull Z).map pt)] (fun r => retOk r = true ∧ (endsOf κ ε).rt r) ((fun nm => (endsOf κ ε).ex nm [.br (ns.map Dat.int), .ow ((hull X).map pt), .ow ((hull Z).map pt), .un, .fz (mv q), .un])) := .mk q X Z tk.1 bq XL (fun p hp => (XB p hp).mono (by decide)) (fun _ => ⟨rfl, k⟩) fun z => absurd tk z
      show asB (.v (.bl (eqD (.int (if q.a * q.d - q.b * q.c < 0 then -(q.a * q.d - q.b * q.c) else q.a * q.d - q.b * q.c)) (.int 1)))) _
      rw [e1]
      exact fin
  · have ne : F ≠ G := fun e => nt _ (yes e)
    rw [if_neg ne]
    walk_at "w"
    exact ⟨rfl, k⟩
end Py
namespace Py
open PySem PySem.Spec PyProof.Rows L2 DL
theorem all_mk {l : PySem.W.OpenLaw} {w : World} {K : PySem.W.Frag} {h : Heap} {mg : MG} {fa f0 f1 f2 f3 f4 f5 f6 f7 f8 f9 f10 f11 f12 f13 f14 f15 f16 f17 f18 f19 f20 f21 f22 f23 f24 f25 f26 f27 f28 f29 f30 f31 f32 : Addr} (X : K.In h) (G : h.Ns mainGlobals mg) (hfa : mg "law" = some (.ref fa))
    {od0 od1 od2 od3 od4 od5 od6 od7 od8 od9 od10 od11 od12 od13 od14 od15 od16 od17 od18 od19 od20 od21 od22 od23 od24 od25 od26 od27 od28 od29 od30 od31 od32 an0 an1 an2 an3 an4 an5 an6 an7 an8 an9 an10 an11 an12 an13 an14 an15 an16 an17 an18 an19 an20 an21 an22 an23 an24 an25 an26 an27 an28 an29 an30 an31 an32 : Option Addr} {sl0 sl1 sl2 sl3 sl4 sl5 sl6 sl7 sl8 sl9 sl10 sl11 sl12 sl13 sl14 sl15 sl16 sl17 sl18 sl19 sl20 sl21 sl22 sl23 sl24 sl25 sl26 sl27 sl28 sl29 sl30 sl31 sl32 : Array (Option Value)} {oc0 oc1 oc2 oc3 oc4 oc5 oc6 oc7 oc8 oc9 oc10 oc11 oc12 oc13 oc14 oc15 oc16 oc17 oc18 oc19 oc20 oc21 oc22 oc23 oc24 oc25 oc26 oc27 oc28 oc29 oc30 oc31 oc32 kV0 kV1 kV2 kV3 kV4 kV5 kV6 kV7 kV8 kV9 kV10 kV11 kV12 kV13 kV14 kV15 kV16 kV17 kV18 kV19 kV20 kV21 kV22 kV23 kV24 kV25 kV26 kV27 kV28 kV29 kV30 kV31 kV32 dc0 dc1 dc2 dc3 dc4 dc5 dc6 dc7 dc8 dc9 dc10 dc11 dc12 dc13 dc14 dc15 dc16 dc17 dc18 dc19 dc20 dc21 dc22 dc23 dc24 dc25 dc26 dc27 dc28 dc29 dc30 dc31 dc32 pm0 pm1 pm2 pm3 pm4 pm5 pm6 pm7 pm8 pm9 pm10 pm11 pm12 pm13 pm14 pm15 pm16 pm17 pm18 pm19 pm20 pm21 pm22 pm23 pm24 pm25 pm26 pm27 pm28 pm29 pm30 pm31 pm32 cd0 cd1 cd2 cd3 cd4 cd5 cd6 cd7 cd8 cd9 cd10 cd11 cd12 cd13 cd14 cd15 cd16 cd17 cd18 cd19 cd20 cd21 cd22 cd23 cd24 cd25 cd26 cd27 cd28 cd29 cd30 cd31 cd32 ct0 ct1 ct2 ct3 ct4 ct5 ct6 ct7 ct8 ct9 ct10 ct11 ct12 ct13 ct14 ct15 ct16 ct17 ct18 ct19 ct20 ct21 ct22 ct23 ct24 ct25 ct26 ct27 ct28 ct29 ct30 ct31 ct32 : Value}
    (a0 : PySem.W.nsIn K mainGlobals "is_whole" = some (some (.ref f0))) (l0 : K.lookup f0 = some ⟨oc0, od0, .func (PySem.W.fnOf "is_whole" "is_whole" (defArgs s_is_whole) (defBody s_is_whole) (defScope s_is_whole) .none kV0 dc0 pm0 an0 cd0 ct0), sl0⟩) (c0 : PySem.W.codeIn K cd0 "is_whole" = true) (k0 : PySem.W.keepIn K (.ref f0) = true)
    (a1 : PySem.W.nsIn K mainGlobals "shares" = some (some (.ref f1))) (l1 : K.lookup f1 = some ⟨oc1, od1, .func (PySem.W.fnOf "shares" "shares" (defArgs s_shares) (defBody s_shares) (defScope s_shares) .none kV1 dc1 pm1 an1 cd1 ct1), sl1⟩) (c1 : PySem.W.codeIn K cd1 "shares" = true) (k1 : PySem.W.keepIn K (.ref f1) = true)
    (a2 : PySem.W.nsIn K mainGlobals "is_move" = some (some (.ref f2))) (l2 : K.lookup f2 = some ⟨oc2, od2, .func (PySem.W.fnOf "is_move" "is_move" (defArgs s_is_move) (defBody s_is_move) (defScope s_is_move) .none kV2 dc2 pm2 an2 cd2 ct2), sl2⟩) (c2 : PySem.W.codeIn K cd2 "is_move" = true) (k2 : PySem.W.keepIn K (.ref f2) = true)
    (a3 : PySem.W.nsIn K mainGlobals "need_move" = some (some (.ref f3))) (l3 : K.lookup f3 = some ⟨oc3, od3, .func (PySem.W.fnOf "need_move" "need_move" (defArgs s_need_move) (defBody s_need_move) (defScope s_need_move) .none kV3 dc3 pm3 an3 cd3 ct3), sl3⟩) (c3 : PySem.W.codeIn K cd3 "need_move" = true) (k3 : PySem.W.keepIn K (.ref f3) = true)
    (a4 : PySem.W.nsIn K mainGlobals "moved" = some (some (.ref f4))) (l4 : K.lookup f4 = some ⟨oc4, od4, .func (PySem.W.fnOf "moved" "moved" (defArgs s_moved) (defBody s_moved) (defScope s_moved) .none kV4 dc4 pm4 an4 cd4 ct4), sl4⟩) (c4 : PySem.W.codeIn K cd4 "moved" = true) (k4 : PySem.W.keepIn K (.ref f4) = true)
    (a5 : PySem.W.nsIn K mainGlobals "behind" = some (some (.ref f5))) (l5 : K.lookup f5 = some ⟨oc5, od5, .func (PySem.W.fnOf "behind" "behind" (defArgs s_behind) (defBody s_behind) (defScope s_behind) .none kV5 dc5 pm5 an5 cd5 ct5), sl5⟩) (c5 : PySem.W.codeIn K cd5 "behind" = true) (k5 : PySem.W.keepIn K (.ref f5) = true)
    (a6 : PySem.W.nsIn K mainGlobals "way_back" = some (some (.ref f6))) (l6 : K.lookup f6 = some ⟨oc6, od6, .func (PySem.W.fnOf "way_back" "way_back" (defArgs s_way_back) (defBody s_way_back) (defScope s_way_back) .none kV6 dc6 pm6 an6 cd6 ct6), sl6⟩) (c6 : PySem.W.codeIn K cd6 "way_back" = true) (k6 : PySem.W.keepIn K (.ref f6) = true)
    (a7 : PySem.W.nsIn K mainGlobals "steps" = some (some (.ref f7))) (l7 : K.lookup f7 = some ⟨oc7, od7, .func (PySem.W.fnOf "steps" "steps" (defArgs s_steps) (defBody s_steps) (defScope s_steps) .none kV7 dc7 pm7 an7 cd7 ct7), sl7⟩) (c7 : PySem.W.codeIn K cd7 "steps" = true) (k7 : PySem.W.keepIn K (.ref f7) = true)
    (a8 : PySem.W.nsIn K mainGlobals "level" = some (some (.ref f8))) (l8 : K.lookup f8 = some ⟨oc8, od8, .func (PySem.W.fnOf "level" "level" (defArgs s_level) (defBody s_level) (defScope s_level) .none kV8 dc8 pm8 an8 cd8 ct8), sl8⟩) (c8 : PySem.W.codeIn K cd8 "level" = true) (k8 : PySem.W.keepIn K (.ref f8) = true)
    (a9 : PySem.W.nsIn K mainGlobals "turn" = some (some (.ref f9))) (l9 : K.lookup f9 = some ⟨oc9, od9, .func (PySem.W.fnOf "turn" "turn" (defArgs s_turn) (defBody s_turn) (defScope s_turn) .none kV9 dc9 pm9 an9 cd9 ct9), sl9⟩) (c9 : PySem.W.codeIn K cd9 "turn" = true) (k9 : PySem.W.keepIn K (.ref f9) = true)
    (a10 : PySem.W.nsIn K mainGlobals "half_round" = some (some (.ref f10))) (l10 : K.lookup f10 = some ⟨oc10, od10, .func (PySem.W.fnOf "half_round" "half_round" (defArgs s_half_round) (defBody s_half_round) (defScope s_half_round) .none kV10 dc10 pm10 an10 cd10 ct10), sl10⟩) (c10 : PySem.W.codeIn K cd10 "half_round" = true) (k10 : PySem.W.keepIn K (.ref f10) = true)
    (a11 : PySem.W.nsIn K mainGlobals "field" = some (some (.ref f11))) (l11 : K.lookup f11 = some ⟨oc11, od11, .func (PySem.W.fnOf "field" "field" (defArgs s_field) (defBody s_field) (defScope s_field) .none kV11 dc11 pm11 an11 cd11 ct11), sl11⟩) (c11 : PySem.W.codeIn K cd11 "field" = true) (k11 : PySem.W.keepIn K (.ref f11) = true)
    (a12 : PySem.W.nsIn K mainGlobals "field_moved" = some (some (.ref f12))) (l12 : K.lookup f12 = some ⟨oc12, od12, .func (PySem.W.fnOf "field_moved" "field_moved" (defArgs s_field_moved) (defBody s_field_moved) (defScope s_field_moved) .none kV12 dc12 pm12 an12 cd12 ct12), sl12⟩) (c12 : PySem.W.codeIn K cd12 "field_moved" = true) (k12 : PySem.W.keepIn K (.ref f12) = true)
    (a13 : PySem.W.nsIn K mainGlobals "stand_at" = some (some (.ref f13))) (l13 : K.lookup f13 = some ⟨oc13, od13, .func (PySem.W.fnOf "stand_at" "stand_at" (defArgs s_stand_at) (defBody s_stand_at) (defScope s_stand_at) .none kV13 dc13 pm13 an13 cd13 ct13), sl13⟩) (c13 : PySem.W.codeIn K cd13 "stand_at" = true) (k13 : PySem.W.keepIn K (.ref f13) = true)
    (a14 : PySem.W.nsIn K mainGlobals "stands" = some (some (.ref f14))) (l14 : K.lookup f14 = some ⟨oc14, od14, .func (PySem.W.fnOf "stands" "stands" (defArgs s_stands) (defBody s_stands) (defScope s_stands) .none kV14 dc14 pm14 an14 cd14 ct14), sl14⟩) (c14 : PySem.W.codeIn K cd14 "stands" = true) (k14 : PySem.W.keepIn K (.ref f14) = true)
    (a15 : PySem.W.nsIn K mainGlobals "shapes_by_stands" = some (some (.ref f15))) (l15 : K.lookup f15 = some ⟨oc15, od15, .func (PySem.W.fnOf "shapes_by_stands" "shapes_by_stands" (defArgs s_shapes_by_stands) (defBody s_shapes_by_stands) (defScope s_shapes_by_stands) .none kV15 dc15 pm15 an15 cd15 ct15), sl15⟩) (c15 : PySem.W.codeIn K cd15 "shapes_by_stands" = true) (k15 : PySem.W.keepIn K (.ref f15) = true)
    (a16 : PySem.W.nsIn K mainGlobals "form_and_move" = some (some (.ref f16))) (l16 : K.lookup f16 = some ⟨oc16, od16, .func (PySem.W.fnOf "form_and_move" "form_and_move" (defArgs s_form_and_move) (defBody s_form_and_move) (defScope s_form_and_move) .none kV16 dc16 pm16 an16 cd16 ct16), sl16⟩) (c16 : PySem.W.codeIn K cd16 "form_and_move" = true) (k16 : PySem.W.keepIn K (.ref f16) = true)
    (a17 : PySem.W.nsIn K mainGlobals "alike" = some (some (.ref f17))) (l17 : K.lookup f17 = some ⟨oc17, od17, .func (PySem.W.fnOf "alike" "alike" (defArgs s_alike) (defBody s_alike) (defScope s_alike) .none kV17 dc17 pm17 an17 cd17 ct17), sl17⟩) (c17 : PySem.W.codeIn K cd17 "alike" = true) (k17 : PySem.W.keepIn K (.ref f17) = true)
    (a18 : PySem.W.nsIn K mainGlobals "_law_cell_at" = some (some (.ref f18))) (l18 : K.lookup f18 = some ⟨oc18, od18, .func (PySem.W.fnOf "_law_cell_at" "_law_cell_at" (defArgs s_L_cell_at) (defBody s_L_cell_at) (defScope s_L_cell_at) .none kV18 dc18 pm18 an18 cd18 ct18), sl18⟩) (c18 : PySem.W.codeIn K cd18 "_law_cell_at" = true) (k18 : PySem.W.keepIn K (.ref f18) = true)
    (a19 : PySem.W.nsIn K mainGlobals "_law_whole" = some (some (.ref f19))) (l19 : K.lookup f19 = some ⟨oc19, od19, .func (PySem.W.fnOf "_law_whole" "_law_whole" (defArgs s_L_whole) (defBody s_L_whole) (defScope s_L_whole) .none kV19 dc19 pm19 an19 cd19 ct19), sl19⟩) (c19 : PySem.W.codeIn K cd19 "_law_whole" = true) (k19 : PySem.W.keepIn K (.ref f19) = true)
    (a20 : PySem.W.nsIn K mainGlobals "_law_cross" = some (some (.ref f20))) (l20 : K.lookup f20 = some ⟨oc20, od20, .func (PySem.W.fnOf "_law_cross" "_law_cross" (defArgs s_L_cross) (defBody s_L_cross) (defScope s_L_cross) .none kV20 dc20 pm20 an20 cd20 ct20), sl20⟩) (c20 : PySem.W.codeIn K cd20 "_law_cross" = true) (k20 : PySem.W.keepIn K (.ref f20) = true)
    (a21 : PySem.W.nsIn K mainGlobals "_law_corners" = some (some (.ref f21))) (l21 : K.lookup f21 = some ⟨oc21, od21, .func (PySem.W.fnOf "_law_corners" "_law_corners" (defArgs s_L_corners) (defBody s_L_corners) (defScope s_L_corners) .none kV21 dc21 pm21 an21 cd21 ct21), sl21⟩) (c21 : PySem.W.codeIn K cd21 "_law_corners" = true) (k21 : PySem.W.keepIn K (.ref f21) = true)
    (a22 : PySem.W.nsIn K mainGlobals "_law_window" = some (some (.ref f22))) (l22 : K.lookup f22 = some ⟨oc22, od22, .func (PySem.W.fnOf "_law_window" "_law_window" (defArgs s_L_window) (defBody s_L_window) (defScope s_L_window) .none kV22 dc22 pm22 an22 cd22 ct22), sl22⟩) (c22 : PySem.W.codeIn K cd22 "_law_window" = true) (k22 : PySem.W.keepIn K (.ref f22) = true)
    (a23 : PySem.W.nsIn K mainGlobals "_law_turned_number" = some (some (.ref f23))) (l23 : K.lookup f23 = some ⟨oc23, od23, .func (PySem.W.fnOf "_law_turned_number" "_law_turned_number" (defArgs s_L_turned_number) (defBody s_L_turned_number) (defScope s_L_turned_number) .none kV23 dc23 pm23 an23 cd23 ct23), sl23⟩) (c23 : PySem.W.codeIn K cd23 "_law_turned_number" = true) (k23 : PySem.W.keepIn K (.ref f23) = true)
    (a24 : PySem.W.nsIn K mainGlobals "_law_slim" = some (some (.ref f24))) (l24 : K.lookup f24 = some ⟨oc24, od24, .func (PySem.W.fnOf "_law_slim" "_law_slim" (defArgs s_L_slim) (defBody s_L_slim) (defScope s_L_slim) .none kV24 dc24 pm24 an24 cd24 ct24), sl24⟩) (c24 : PySem.W.codeIn K cd24 "_law_slim" = true) (k24 : PySem.W.keepIn K (.ref f24) = true)
    (a25 : PySem.W.nsIn K mainGlobals "_law_two" = some (some (.ref f25))) (l25 : K.lookup f25 = some ⟨oc25, od25, .func (PySem.W.fnOf "_law_two" "_law_two" (defArgs s_L_two) (defBody s_L_two) (defScope s_L_two) .none kV25 dc25 pm25 an25 cd25 ct25), sl25⟩) (c25 : PySem.W.codeIn K cd25 "_law_two" = true) (k25 : PySem.W.keepIn K (.ref f25) = true)
    (a26 : PySem.W.nsIn K mainGlobals "_law_lean" = some (some (.ref f26))) (l26 : K.lookup f26 = some ⟨oc26, od26, .func (PySem.W.fnOf "_law_lean" "_law_lean" (defArgs s_L_lean) (defBody s_L_lean) (defScope s_L_lean) .none kV26 dc26 pm26 an26 cd26 ct26), sl26⟩) (c26 : PySem.W.codeIn K cd26 "_law_lean" = true) (k26 : PySem.W.keepIn K (.ref f26) = true)
    (a27 : PySem.W.nsIn K mainGlobals "_law_from" = some (some (.ref f27))) (l27 : K.lookup f27 = some ⟨oc27, od27, .func (PySem.W.fnOf "_law_from" "_law_from" (defArgs s_L_from) (defBody s_L_from) (defScope s_L_from) .none kV27 dc27 pm27 an27 cd27 ct27), sl27⟩) (c27 : PySem.W.codeIn K cd27 "_law_from" = true) (k27 : PySem.W.keepIn K (.ref f27) = true)
    (a28 : PySem.W.nsIn K mainGlobals "_law_tried" = some (some (.ref f28))) (l28 : K.lookup f28 = some ⟨oc28, od28, .func (PySem.W.fnOf "_law_tried" "_law_tried" (defArgs s_L_tried) (defBody s_L_tried) (defScope s_L_tried) .none kV28 dc28 pm28 an28 cd28 ct28), sl28⟩) (c28 : PySem.W.codeIn K cd28 "_law_tried" = true) (k28 : PySem.W.keepIn K (.ref f28) = true)
    (a29 : PySem.W.nsIn K mainGlobals "_law_by" = some (some (.ref f29))) (l29 : K.lookup f29 = some ⟨oc29, od29, .func (PySem.W.fnOf "_law_by" "_law_by" (defArgs s_L_by) (defBody s_L_by) (defScope s_L_by) .none kV29 dc29 pm29 an29 cd29 ct29), sl29⟩) (c29 : PySem.W.codeIn K cd29 "_law_by" = true) (k29 : PySem.W.keepIn K (.ref f29) = true)
    (a30 : PySem.W.nsIn K mainGlobals "_law_takes" = some (some (.ref f30))) (l30 : K.lookup f30 = some ⟨oc30, od30, .func (PySem.W.fnOf "_law_takes" "_law_takes" (defArgs s_L_takes) (defBody s_L_takes) (defScope s_L_takes) .none kV30 dc30 pm30 an30 cd30 ct30), sl30⟩) (c30 : PySem.W.codeIn K cd30 "_law_takes" = true) (k30 : PySem.W.keepIn K (.ref f30) = true)
    (a31 : PySem.W.nsIn K mainGlobals "_law_any" = some (some (.ref f31))) (l31 : K.lookup f31 = some ⟨oc31, od31, .func (PySem.W.fnOf "_law_any" "_law_any" (defArgs s_L_any) (defBody s_L_any) (defScope s_L_any) .none kV31 dc31 pm31 an31 cd31 ct31), sl31⟩) (c31 : PySem.W.codeIn K cd31 "_law_any" = true) (k31 : PySem.W.keepIn K (.ref f31) = true)
    (a32 : PySem.W.nsIn K mainGlobals "law" = some (some (.ref f32))) (l32 : K.lookup f32 = some ⟨oc32, od32, .func (PySem.W.fnOf "law" "law" (defArgs s_law) (defBody s_law) (defScope s_law) .none kV32 dc32 pm32 an32 cd32 ct32), sl32⟩) (c32 : PySem.W.codeIn K cd32 "law" = true) (k32 : PySem.W.keepIn K (.ref f32) = true)
    (zabs_ : PySem.W.nsIn K mainGlobals "abs" = some none)
    (zbool_ : PySem.W.nsIn K mainGlobals "bool" = some none)
    (zint_ : PySem.W.nsIn K mainGlobals "int" = some none)
    (zisinstance_ : PySem.W.nsIn K mainGlobals "isinstance" = some none)
    (zlen_ : PySem.W.nsIn K mainGlobals "len" = some none)
    (zlist_ : PySem.W.nsIn K mainGlobals "list" = some none)
    (zmin_ : PySem.W.nsIn K mainGlobals "min" = some none)
    (zrange_ : PySem.W.nsIn K mainGlobals "range" = some none)
    (zreversed_ : PySem.W.nsIn K mainGlobals "reversed" = some none)
    (zset_ : PySem.W.nsIn K mainGlobals "set" = some none)
    (zsorted_ : PySem.W.nsIn K mainGlobals "sorted" = some none)
    (ztuple_ : PySem.W.nsIn K mainGlobals "tuple" = some none)
    {e0 e1 e2 : Addr}
    (ea0 : PySem.W.nsIn K mainGlobals "Flat" = some (some (.ref e0)))
    (ex0 : PySem.W.excIn K e0 veB "ValueError.__new__" = true) (eb0 : PySem.W.subIn K (.ref e0) (.type "BaseException") = some true) (et0 : PySem.W.typeIn K (.ref e0) = some (.type "type"))
    (ek0 : PySem.W.keepIn K (.ref e0) = true)
    (ea1 : PySem.W.nsIn K mainGlobals "NoField" = some (some (.ref e1)))
    (ex1 : PySem.W.excIn K e1 veB "ValueError.__new__" = true) (eb1 : PySem.W.subIn K (.ref e1) (.type "BaseException") = some true) (et1 : PySem.W.typeIn K (.ref e1) = some (.type "type"))
    (ek1 : PySem.W.keepIn K (.ref e1) = true)
    (ea2 : PySem.W.nsIn K mainGlobals "NoMove" = some (some (.ref e2)))
    (ex2 : PySem.W.excIn K e2 veB "ValueError.__new__" = true) (eb2 : PySem.W.subIn K (.ref e2) (.type "BaseException") = some true) (et2 : PySem.W.typeIn K (.ref e2) = some (.type "type"))
    (ek2 : PySem.W.keepIn K (.ref e2) = true)
    : ∃ fd : FuncData, (∀ (s : Shared) (v : Value), BindsTo s fd ⟨[v], []⟩ [("script", v)]) ∧ ∀ base : Heap, K.In base → base.Ns mainGlobals mg → FnOk l.prog w K mg base (L2.CX l.prog w) 10 fa fd ["script"] (spLaw K) := by
  have e := hfa.symm.trans (PySem.W.mg_of X G a32)
  cases e
  have B : Bs mg := ⟨PySem.W.mg_none_of X G zabs_, PySem.W.mg_none_of X G zbool_, PySem.W.mg_none_of X G zint_, PySem.W.mg_none_of X G zisinstance_, PySem.W.mg_none_of X G zlen_, PySem.W.mg_none_of X G zlist_, PySem.W.mg_none_of X G zmin_, PySem.W.mg_none_of X G zrange_, PySem.W.mg_none_of X G zreversed_, PySem.W.mg_none_of X G zset_, PySem.W.mg_none_of X G zsorted_, PySem.W.mg_none_of X G ztuple_⟩
  have ga0 := PySem.W.mg_of X G ea0
  have ga1 := PySem.W.mg_of X G ea1
  have ga2 := PySem.W.mg_of X G ea2
  have EX : Es K mg := ⟨⟨_, ga0, ex0, ek0, eb0, et0⟩, ⟨_, ga1, ex1, ek1, eb1, et1⟩, ⟨_, ga2, ex2, ek2, eb2, et2⟩, ⟨(fun _ h => nomatch h), (fun _ h => nomatch h)⟩⟩
  have F0 := fun_mk (st := s_is_whole) l0 c0 k0
  have b0 := F0.binds (ps := ["thing"]) fun _ _ _ _ _ _ us hl => match us, hl with | [_], _ => rfl
  have F1 := fun_mk (st := s_shares) l1 c1 k1
  have b1 := F1.binds (ps := ["a", "b"]) fun _ _ _ _ _ _ us hl => match us, hl with | [_, _], _ => rfl
  have F2 := fun_mk (st := s_is_move) l2 c2 k2
  have b2 := F2.binds (ps := ["thing"]) fun _ _ _ _ _ _ us hl => match us, hl with | [_], _ => rfl
  have F3 := fun_mk (st := s_need_move) l3 c3 k3
  have b3 := F3.binds (ps := ["thing"]) fun _ _ _ _ _ _ us hl => match us, hl with | [_], _ => rfl
  have F4 := fun_mk (st := s_moved) l4 c4 k4
  have b4 := F4.binds (ps := ["P", "move"]) fun _ _ _ _ _ _ us hl => match us, hl with | [_, _], _ => rfl
  have F5 := fun_mk (st := s_behind) l5 c5 k5
  have b5 := F5.binds (ps := ["first", "second"]) fun _ _ _ _ _ _ us hl => match us, hl with | [_, _], _ => rfl
  have F6 := fun_mk (st := s_way_back) l6 c6 k6
  have b6 := F6.binds (ps := ["move"]) fun _ _ _ _ _ _ us hl => match us, hl with | [_], _ => rfl
  have F7 := fun_mk (st := s_steps) l7 c7 k7
  have b7 := F7.binds (ps := ["P", "Q"]) fun _ _ _ _ _ _ us hl => match us, hl with | [_, _], _ => rfl
  have F8 := fun_mk (st := s_level) l8 c8 k8
  have b8 := F8.binds (ps := ["P", "Q"]) fun _ _ _ _ _ _ us hl => match us, hl with | [_, _], _ => rfl
  have F9 := fun_mk (st := s_turn) l9 c9 k9
  have b9 := F9.binds (ps := ["one", "two", "three"]) fun _ _ _ _ _ _ us hl => match us, hl with | [_, _, _], _ => rfl
  have F10 := fun_mk (st := s_half_round) l10 c10 k10
  have b10 := F10.binds (ps := ["points"]) fun _ _ _ _ _ _ us hl => match us, hl with | [_], _ => rfl
  have F11 := fun_mk (st := s_field) l11 c11 k11
  have b11 := F11.binds (ps := ["points"]) fun _ _ _ _ _ _ us hl => match us, hl with | [_], _ => rfl
  have F12 := fun_mk (st := s_field_moved) l12 c12 k12
  have b12 := F12.binds (ps := ["land", "move"]) fun _ _ _ _ _ _ us hl => match us, hl with | [_, _], _ => rfl
  have F13 := fun_mk (st := s_stand_at) l13 c13 k13
  have b13 := F13.binds (ps := ["here", "near", "far"]) fun _ _ _ _ _ _ us hl => match us, hl with | [_, _, _], _ => rfl
  have F14 := fun_mk (st := s_stands) l14 c14 k14
  have b14 := F14.binds (ps := ["land"]) fun _ _ _ _ _ _ us hl => match us, hl with | [_], _ => rfl
  have F15 := fun_mk (st := s_shapes_by_stands) l15 c15 k15
  have b15 := F15.binds (ps := ["land"]) fun _ _ _ _ _ _ us hl => match us, hl with | [_], _ => rfl
  have F16 := fun_mk (st := s_form_and_move) l16 c16 k16
  have b16 := F16.binds (ps := ["land"]) fun _ _ _ _ _ _ us hl => match us, hl with | [_], _ => rfl
  have F17 := fun_mk (st := s_alike) l17 c17 k17
  have b17 := F17.binds (ps := ["one", "other"]) fun _ _ _ _ _ _ us hl => match us, hl with | [_, _], _ => rfl
  have F18 := fun_mk (st := s_L_cell_at) l18 c18 k18
  have b18 := F18.binds (ps := ["script", "k"]) fun _ _ _ _ _ _ us hl => match us, hl with | [_, _], _ => rfl
  have F19 := fun_mk (st := s_L_whole) l19 c19 k19
  have b19 := F19.binds (ps := ["found"]) fun _ _ _ _ _ _ us hl => match us, hl with | [_], _ => rfl
  have F20 := fun_mk (st := s_L_cross) l20 c20 k20
  have b20 := F20.binds (ps := ["one", "two", "three"]) fun _ _ _ _ _ _ us hl => match us, hl with | [_, _, _], _ => rfl
  have F21 := fun_mk (st := s_L_corners) l21 c21 k21
  have b21 := F21.binds (ps := ["points"]) fun _ _ _ _ _ _ us hl => match us, hl with | [_], _ => rfl
  have F22 := fun_mk (st := s_L_window) l22 c22 k22
  have b22 := F22.binds (ps := ["script", "start"]) fun _ _ _ _ _ _ us hl => match us, hl with | [_, _], _ => rfl
  have F23 := fun_mk (st := s_L_turned_number) l23 c23 k23
  have b23 := F23.binds (ps := ["a", "n"]) fun _ _ _ _ _ _ us hl => match us, hl with | [_, _], _ => rfl
  have F24 := fun_mk (st := s_L_slim) l24 c24 k24
  have b24 := F24.binds (ps := ["script"]) fun _ _ _ _ _ _ us hl => match us, hl with | [_], _ => rfl
  have F25 := fun_mk (st := s_L_two) l25 c25 k25
  have b25 := F25.binds (ps := ["script"]) fun _ _ _ _ _ _ us hl => match us, hl with | [_], _ => rfl
  have F26 := fun_mk (st := s_L_lean) l26 c26 k26
  have b26 := F26.binds (ps := ["spot", "script"]) fun _ _ _ _ _ _ us hl => match us, hl with | [_, _], _ => rfl
  have F27 := fun_mk (st := s_L_from) l27 c27 k27
  have b27 := F27.binds (ps := ["start", "spot"]) fun _ _ _ _ _ _ us hl => match us, hl with | [_, _], _ => rfl
  have F28 := fun_mk (st := s_L_tried) l28 c28 k28
  have b28 := F28.binds (ps := ["one", "other", "at", "way"]) fun _ _ _ _ _ _ us hl => match us, hl with | [_, _, _, _], _ => rfl
  have F29 := fun_mk (st := s_L_by) l29 c29 k29
  have b29 := F29.binds (ps := ["move", "spot"]) fun _ _ _ _ _ _ us hl => match us, hl with | [_, _], _ => rfl
  have F30 := fun_mk (st := s_L_takes) l30 c30 k30
  have b30 := F30.binds (ps := ["move", "one", "other"]) fun _ _ _ _ _ _ us hl => match us, hl with | [_, _, _], _ => rfl
  have F31 := fun_mk (st := s_L_any) l31 c31 k31
  have b31 := F31.binds (ps := ["one", "other"]) fun _ _ _ _ _ _ us hl => match us, hl with | [_, _], _ => rfl
  have F32 := fun_mk (st := s_law) l32 c32 k32
  have b32 := F32.binds (ps := ["script"]) fun _ _ _ _ _ _ us hl => match us, hl with | [_], _ => rfl
  refine ⟨PySem.W.fnOf "law" "law" (defArgs s_law) (defBody s_law) (defScope s_law) .none kV32 dc32 pm32 an32 cd32 ct32, fun s v => .of_eq rfl, fun base _ _ => ?_⟩
  have G0 := ok_is_whole (P := l.prog) (w := w) (base := base) F0 (PySem.W.mg_of X G a0) b0 B EX sem_is_whole
  have G1 := ok_shares (P := l.prog) (w := w) (base := base) F1 (PySem.W.mg_of X G a1) b1 B EX sem_shares
  have G2 := ok_is_move (P := l.prog) (w := w) (base := base) F2 (PySem.W.mg_of X G a2) b2 B EX G0 sem_is_move
  have G3 := ok_need_move (P := l.prog) (w := w) (base := base) F3 (PySem.W.mg_of X G a3) b3 B EX G2 sem_need_move
  have G4 := ok_moved (P := l.prog) (w := w) (base := base) F4 (PySem.W.mg_of X G a4) b4 B EX G3 sem_moved
  have G5 := ok_behind (P := l.prog) (w := w) (base := base) F5 (PySem.W.mg_of X G a5) b5 B EX G3 G4 sem_behind
  have G6 := ok_way_back (P := l.prog) (w := w) (base := base) F6 (PySem.W.mg_of X G a6) b6 B EX G3 sem_way_back
  have G7 := ok_steps (P := l.prog) (w := w) (base := base) F7 (PySem.W.mg_of X G a7) b7 B EX G1 sem_steps
  have G8 := ok_level (P := l.prog) (w := w) (base := base) F8 (PySem.W.mg_of X G a8) b8 B EX G7 G1 sem_level
  have G9 := ok_turn (P := l.prog) (w := w) (base := base) F9 (PySem.W.mg_of X G a9) b9 B EX sem_turn
  have G10 := ok_half_round (P := l.prog) (w := w) (base := base) F10 (PySem.W.mg_of X G a10) b10 B EX G9 sem_half_round
  have G11 := ok_field (P := l.prog) (w := w) (base := base) F11 (PySem.W.mg_of X G a11) b11 B EX G10 sem_field
  have G12 := ok_field_moved (P := l.prog) (w := w) (base := base) F12 (PySem.W.mg_of X G a12) b12 B EX G11 G4 sem_field_moved
  have G13 := ok_stand_at (P := l.prog) (w := w) (base := base) F13 (PySem.W.mg_of X G a13) b13 B EX G8 G4 sem_stand_at
  have G14 := ok_stands (P := l.prog) (w := w) (base := base) F14 (PySem.W.mg_of X G a14) b14 B EX G13 sem_stands
  have G15 := ok_shapes_by_stands (P := l.prog) (w := w) (base := base) F15 (PySem.W.mg_of X G a15) b15 B EX G14 G12 sem_shapes_by_stands
  have G16 := ok_form_and_move (P := l.prog) (w := w) (base := base) F16 (PySem.W.mg_of X G a16) b16 B EX G12 G8 G15 sem_form_and_move
  have G17 := ok_alike (P := l.prog) (w := w) (base := base) F17 (PySem.W.mg_of X G a17) b17 B EX G16 G5 G6 sem_alike
  have G18 := ok_L_cell_at (P := l.prog) (w := w) (base := base) F18 (PySem.W.mg_of X G a18) b18 B EX sem_L_cell_at
  have G19 := ok_L_whole (P := l.prog) (w := w) (base := base) F19 (PySem.W.mg_of X G a19) b19 B EX sem_L_whole
  have G20 := ok_L_cross (P := l.prog) (w := w) (base := base) F20 (PySem.W.mg_of X G a20) b20 B EX sem_L_cross
  have G21 := ok_L_corners (P := l.prog) (w := w) (base := base) F21 (PySem.W.mg_of X G a21) b21 B EX G20 sem_L_corners
  have G22 := ok_L_window (P := l.prog) (w := w) (base := base) F22 (PySem.W.mg_of X G a22) b22 B EX G18 sem_L_window
  have G23 := ok_L_turned_number (P := l.prog) (w := w) (base := base) F23 (PySem.W.mg_of X G a23) b23 B EX sem_L_turned_number
  have G24 := ok_L_slim (P := l.prog) (w := w) (base := base) F24 (PySem.W.mg_of X G a24) b24 B EX G18 G23 sem_L_slim
  have G25 := ok_L_two (P := l.prog) (w := w) (base := base) F25 (PySem.W.mg_of X G a25) b25 B EX G18 G24 G22 sem_L_two
  have G26 := ok_L_lean (P := l.prog) (w := w) (base := base) F26 (PySem.W.mg_of X G a26) b26 B EX G18 sem_L_lean
  have G27 := ok_L_from (P := l.prog) (w := w) (base := base) F27 (PySem.W.mg_of X G a27) b27 B EX sem_L_from
  have G28 := ok_L_tried (P := l.prog) (w := w) (base := base) F28 (PySem.W.mg_of X G a28) b28 B EX G27 sem_L_tried
  have G29 := ok_L_by (P := l.prog) (w := w) (base := base) F29 (PySem.W.mg_of X G a29) b29 B EX sem_L_by
  have G30 := ok_L_takes (P := l.prog) (w := w) (base := base) F30 (PySem.W.mg_of X G a30) b30 B EX G29 sem_L_takes
  have G31 := ok_L_any (P := l.prog) (w := w) (base := base) F31 (PySem.W.mg_of X G a31) b31 B EX G28 G30 sem_L_any
  exact law_fn (fn_law F32 B EX G25 G21 G26 G17 G31 G19 G30 sem_law) S_law_of
end Py
open PySem PySem.W PyProof.Rows in
set_option maxRecDepth 100000 in
set_option maxHeartbeats 0 in
theorem PySem.Challenge.cw_stakefield_k56_alike_by_trying_holds : PySem.Challenge.rw_stakefield_k56_alike_by_trying.Holds := by
  w_on; o_law; k_head; (case hw => w_witness2)
  k_fill
  refine DL.walk_dl (l := PySem.Challenge.rw_stakefield_k56_alike_by_trying) (k := 10) ⟨rfl, by decide, by decide⟩ rfl rfl (fun w h Y => PySem.W.kIn_of Y) ?F
  case F =>
    intro w mg fa h KX G hmg
    refine' Py.all_mk KX G hmg ?a0 ?l0 ?c0 ?k0 ?a1 ?l1 ?c1 ?k1 ?a2 ?l2 ?c2 ?k2 ?a3 ?l3 ?c3 ?k3 ?a4 ?l4 ?c4 ?k4 ?a5 ?l5 ?c5 ?k5 ?a6 ?l6 ?c6 ?k6 ?a7 ?l7 ?c7 ?k7 ?a8 ?l8 ?c8 ?k8 ?a9 ?l9 ?c9 ?k9 ?a10 ?l10 ?c10 ?k10 ?a11 ?l11 ?c11 ?k11 ?a12 ?l12 ?c12 ?k12 ?a13 ?l13 ?c13 ?k13 ?a14 ?l14 ?c14 ?k14 ?a15 ?l15 ?c15 ?k15 ?a16 ?l16 ?c16 ?k16 ?a17 ?l17 ?c17 ?k17 ?a18 ?l18 ?c18 ?k18 ?a19 ?l19 ?c19 ?k19 ?a20 ?l20 ?c20 ?k20 ?a21 ?l21 ?c21 ?k21 ?a22 ?l22 ?c22 ?k22 ?a23 ?l23 ?c23 ?k23 ?a24 ?l24 ?c24 ?k24 ?a25 ?l25 ?c25 ?k25 ?a26 ?l26 ?c26 ?k26 ?a27 ?l27 ?c27 ?k27 ?a28 ?l28 ?c28 ?k28 ?a29 ?l29 ?c29 ?k29 ?a30 ?l30 ?c30 ?k30 ?a31 ?l31 ?c31 ?k31 ?a32 ?l32 ?c32 ?k32 ?zabs_ ?zbool_ ?zint_ ?zisinstance_ ?zlen_ ?zlist_ ?zmin_ ?zrange_ ?zreversed_ ?zset_ ?zsorted_ ?ztuple_ ?ea0 ?ex0 ?eb0 ?et0 ?ek0 ?ea1 ?ex1 ?eb1 ?et1 ?ek1 ?ea2 ?ex2 ?eb2 ?et2 ?ek2
    (case a0 => k_is)
    (case l0 => k_is)
    (case c0 => k_is)
    (case k0 => k_is)
    (case a1 => k_is)
    (case l1 => k_is)
    (case c1 => k_is)
    (case k1 => k_is)
    (case a2 => k_is)
    (case l2 => k_is)
    (case c2 => k_is)
    (case k2 => k_is)
    (case a3 => k_is)
    (case l3 => k_is)
    (case c3 => k_is)
    (case k3 => k_is)
    (case a4 => k_is)
    (case l4 => k_is)
    (case c4 => k_is)
    (case k4 => k_is)
    (case a5 => k_is)
    (case l5 => k_is)
    (case c5 => k_is)
    (case k5 => k_is)
    (case a6 => k_is)
    (case l6 => k_is)
    (case c6 => k_is)
    (case k6 => k_is)
    (case a7 => k_is)
    (case l7 => k_is)
    (case c7 => k_is)
    (case k7 => k_is)
    (case a8 => k_is)
    (case l8 => k_is)
    (case c8 => k_is)
    (case k8 => k_is)
    (case a9 => k_is)
    (case l9 => k_is)
    (case c9 => k_is)
    (case k9 => k_is)
    (case a10 => k_is)
    (case l10 => k_is)
    (case c10 => k_is)
    (case k10 => k_is)
    (case a11 => k_is)
    (case l11 => k_is)
    (case c11 => k_is)
    (case k11 => k_is)
    (case a12 => k_is)
    (case l12 => k_is)
    (case c12 => k_is)
    (case k12 => k_is)
    (case a13 => k_is)
    (case l13 => k_is)
    (case c13 => k_is)
    (case k13 => k_is)
    (case a14 => k_is)
    (case l14 => k_is)
    (case c14 => k_is)
    (case k14 => k_is)
    (case a15 => k_is)
    (case l15 => k_is)
    (case c15 => k_is)
    (case k15 => k_is)
    (case a16 => k_is)
    (case l16 => k_is)
    (case c16 => k_is)
    (case k16 => k_is)
    (case a17 => k_is)
    (case l17 => k_is)
    (case c17 => k_is)
    (case k17 => k_is)
    (case a18 => k_is)
    (case l18 => k_is)
    (case c18 => k_is)
    (case k18 => k_is)
    (case a19 => k_is)
    (case l19 => k_is)
    (case c19 => k_is)
    (case k19 => k_is)
    (case a20 => k_is)
    (case l20 => k_is)
    (case c20 => k_is)
    (case k20 => k_is)
    (case a21 => k_is)
    (case l21 => k_is)
    (case c21 => k_is)
    (case k21 => k_is)
    (case a22 => k_is)
    (case l22 => k_is)
    (case c22 => k_is)
    (case k22 => k_is)
    (case a23 => k_is)
    (case l23 => k_is)
    (case c23 => k_is)
    (case k23 => k_is)
    (case a24 => k_is)
    (case l24 => k_is)
    (case c24 => k_is)
    (case k24 => k_is)
    (case a25 => k_is)
    (case l25 => k_is)
    (case c25 => k_is)
    (case k25 => k_is)
    (case a26 => k_is)
    (case l26 => k_is)
    (case c26 => k_is)
    (case k26 => k_is)
    (case a27 => k_is)
    (case l27 => k_is)
    (case c27 => k_is)
    (case k27 => k_is)
    (case a28 => k_is)
    (case l28 => k_is)
    (case c28 => k_is)
    (case k28 => k_is)
    (case a29 => k_is)
    (case l29 => k_is)
    (case c29 => k_is)
    (case k29 => k_is)
    (case a30 => k_is)
    (case l30 => k_is)
    (case c30 => k_is)
    (case k30 => k_is)
    (case a31 => k_is)
    (case l31 => k_is)
    (case c31 => k_is)
    (case k31 => k_is)
    (case a32 => k_is)
    (case l32 => k_is)
    (case c32 => k_is)
    (case k32 => k_is)
    (case zabs_ => k_is)
    (case zbool_ => k_is)
    (case zint_ => k_is)
    (case zisinstance_ => k_is)
    (case zlen_ => k_is)
    (case zlist_ => k_is)
    (case zmin_ => k_is)
    (case zrange_ => k_is)
    (case zreversed_ => k_is)
    (case zset_ => k_is)
    (case zsorted_ => k_is)
    (case ztuple_ => k_is)
    (case ea0 => k_is)
    (case ex0 => k_exc)
    (case eb0 => k_is)
    (case et0 => k_is)
    (case ek0 => k_is)
    (case ea1 => k_is)
    (case ex1 => k_exc)
    (case eb1 => k_is)
    (case et1 => k_is)
    (case ek1 => k_is)
    (case ea2 => k_is)
    (case ex2 => k_exc)
    (case eb2 => k_is)
    (case et2 => k_is)
    (case ek2 => k_is)
#print axioms PySem.Challenge.cw_stakefield_k56_alike_by_trying_holds
