import PyProof.Rows.All
import Wide.All
import OpenK.AllK
import Wide.FinOn
import HandS.ForMost
import HandS.ForExc
import HandS.CallSlots
import HandS.EndBits
import HandS.Wide
import HandS.Style
import HandS.TupLe
import KE.KDictKeyed
import HandS.TupAny
import HandS.TryOnly
import HandS.IsInst
import HandS.Deep
import HandS.WideBits
import HandS.ExcIs
import HandS.Rev
import HandS.Zip
import KE.DataMinMax
import KE.SortData
import HandS.TupSets
import HandS.TupMul
import HandS.Defaults
import KE.RegKIsAll
import KE.RegKTryMore
import HandS.Comp
import HandS.Text
import HandS.StrMore
import HandS.Iter
import HandS.ReplaceLit
import PyProof.Rows.StrPartPair
import PyProof.StrLawsTight
import PySem.Challenge.RW_stakefield_k73_whole_rows_of_points
set_option Elab.async false
set_option linter.all false
set_option autoImplicit false
set_option maxRecDepth 100000
set_option exponentiation.threshold 3000000
set_option maxHeartbeats 1000000
/-! The data layer: what an expression or a statement does, told over data (Dat) and slots (Sl) alone. -/
namespace DL
open PySem PySem.Spec PyProof.Rows L2
variable {K : PySem.W.Frag}

inductive Dat where
  | non | bl (b : Bool) | int (i : Int) | str (x : Str) | tup (ds : List Dat) | lst (ds : List Dat) | dic (kvs : List (Key × V))

mutual
def RdD (K : PySem.W.Frag) (G : Hp) : Dat → V → Prop
  | .non, v => v = .non
  | .bl b, v => v = .bl b
  | .int i, v => v = .int i
  | .str x, v => v = .str x
  | .tup ds, v => ∃ a vs, v = .ref a ∧ G a = some (.tup vs) ∧ RdL K G ds vs
  | .lst ds, v => ∃ a vs, v = .ref a ∧ SqL K G a vs ∧ RdL K G ds vs
  | .dic kvs, v => ∃ a, v = .ref a ∧ G a = some (.dK kvs)
def RdL (K : PySem.W.Frag) (G : Hp) : List Dat → List V → Prop
  | [], vs => vs = []
  | d :: ds, vs => ∃ v r, vs = v :: r ∧ RdD K G d v ∧ RdL K G ds r
end

theorem rd_mono {G G' : Hp} {a : Addr} {vs : List V} (s : Same G G') (h : SqL K G a vs) : SqL K G' a vs := s.seq h
theorem sq_of {G : Hp} {a : Addr} {vs : List V} (h : G a = some (.lst vs)) : SqL K G a vs := .inl (.inl h)
mutual
theorem RdD.mono {G G' : Hp} (s : Same G G') : ∀ (d : Dat) (v : V), RdD K G d v → RdD K G' d v
  | .non, _, h => h
  | .bl _, _, h => h
  | .int _, _, h => h
  | .str _, _, h => h
  | .tup ds, v, h => by
    unfold RdD at h ⊢
    obtain ⟨a, vs, e, g, r⟩ := h
    exact ⟨a, vs, e, s _ _ g, RdL.mono s ds vs r⟩
  | .lst ds, v, h => by
    unfold RdD at h ⊢
    obtain ⟨a, vs, e, g, r⟩ := h
    exact ⟨a, vs, e, rd_mono s g, RdL.mono s ds vs r⟩
  | .dic kvs, v, h => by
    unfold RdD at h ⊢
    obtain ⟨a, e, g⟩ := h
    exact ⟨a, e, s _ _ g⟩
theorem RdL.mono {G G' : Hp} (s : Same G G') : ∀ (ds : List Dat) (vs : List V), RdL K G ds vs → RdL K G' ds vs
  | [], _, h => h
  | d :: ds, vs, h => by
    unfold RdL at h ⊢
    obtain ⟨v, r, e, h1, h2⟩ := h
    exact ⟨v, r, e, RdD.mono s d v h1, RdL.mono s ds r h2⟩
end
theorem RdL.nil {G : Hp} : RdL K G [] [] := by unfold RdL; rfl
theorem RdL.cons {G : Hp} {d : Dat} {v : V} {ds : List Dat} {vs : List V} (h : RdD K G d v) (t : RdL K G ds vs) : RdL K G (d :: ds) (v :: vs) := by
  unfold RdL; exact ⟨v, vs, rfl, h, t⟩
theorem RdL.len {G : Hp} : ∀ {ds : List Dat} {vs : List V}, RdL K G ds vs → ds.length = vs.length
  | [], vs, h => by
    unfold RdL at h; rw [h]; rfl
  | d :: ds, vs, h => by
    unfold RdL at h
    obtain ⟨v, r, e, _, h2⟩ := h
    rw [e, List.length_cons, List.length_cons, RdL.len h2]
theorem RdL.get {G : Hp} : ∀ {ds : List Dat} {vs : List V} {i : Nat} {d : Dat}, RdL K G ds vs → ds[i]? = some d → ∃ v, vs[i]? = some v ∧ RdD K G d v
  | [], _, _, _, _, e => by simp at e
  | d :: ds, vs, i, x, h, e => by
    unfold RdL at h
    obtain ⟨v, r, rfl, h1, h2⟩ := h
    cases i with
    | zero => simp at e; subst e; exact ⟨v, rfl, h1⟩
    | succ i => simpa using RdL.get h2 (by simpa using e)
theorem RdL.getV {G : Hp} : ∀ {ds : List Dat} {vs : List V} {i : Nat} {v : V}, RdL K G ds vs → vs[i]? = some v → ∃ d, ds[i]? = some d ∧ RdD K G d v
  | [], vs, _, _, h, e => by unfold RdL at h; subst h; simp at e
  | d :: ds, vs, i, x, h, e => by
    unfold RdL at h
    obtain ⟨v, r, rfl, h1, h2⟩ := h
    cases i with
    | zero => simp at e; subst e; exact ⟨d, rfl, h1⟩
    | succ i => simpa using RdL.getV h2 (by simpa using e)
theorem RdL.append {G : Hp} : ∀ {ds es : List Dat} {vs ws : List V}, RdL K G ds vs → RdL K G es ws → RdL K G (ds ++ es) (vs ++ ws)
  | [], _, vs, _, h, k => by unfold RdL at h; subst h; exact k
  | d :: ds, es, vs, ws, h, k => by
    unfold RdL at h
    obtain ⟨v, r, rfl, h1, h2⟩ := h
    exact RdL.cons h1 (RdL.append h2 k)
theorem RdL.take {G : Hp} : ∀ {ds : List Dat} {vs : List V} (n : Nat), RdL K G ds vs → RdL K G (ds.take n) (vs.take n)
  | [], vs, n, h => by unfold RdL at h; subst h; simpa using RdL.nil
  | d :: ds, vs, 0, h => by simpa using RdL.nil
  | d :: ds, vs, n + 1, h => by
    unfold RdL at h
    obtain ⟨v, r, rfl, h1, h2⟩ := h
    simpa using RdL.cons h1 (RdL.take n h2)
theorem RdL.drop {G : Hp} : ∀ {ds : List Dat} {vs : List V} (n : Nat), RdL K G ds vs → RdL K G (ds.drop n) (vs.drop n)
  | [], vs, n, h => by unfold RdL at h; subst h; simpa using RdL.nil
  | d :: ds, vs, 0, h => by simpa using h
  | d :: ds, vs, n + 1, h => by
    unfold RdL at h
    obtain ⟨v, r, rfl, h1, h2⟩ := h
    simpa using RdL.drop n h2
theorem RdL.dropLast {G : Hp} {ds : List Dat} {vs : List V} (h : RdL K G ds vs) : RdL K G ds.dropLast vs.dropLast := by
  rw [List.dropLast_eq_take, List.dropLast_eq_take, h.len]
  exact h.take _
theorem RdL.reverse {G : Hp} : ∀ {ds : List Dat} {vs : List V}, RdL K G ds vs → RdL K G ds.reverse vs.reverse
  | [], vs, h => by unfold RdL at h; subst h; exact RdL.nil
  | d :: ds, vs, h => by
    unfold RdL at h
    obtain ⟨v, r, rfl, h1, h2⟩ := h
    rw [List.reverse_cons, List.reverse_cons]
    exact RdL.append (RdL.reverse h2) (RdL.cons h1 RdL.nil)
theorem RdL.set {G : Hp} : ∀ {ds : List Dat} {vs : List V} (n : Nat) {d : Dat} {v : V}, RdL K G ds vs → RdD K G d v → RdL K G (ds.set n d) (vs.set n v)
  | [], vs, n, _, _, h, _ => by unfold RdL at h; subst h; simpa using RdL.nil
  | d :: ds, vs, n, x, w, h, k => by
    unfold RdL at h
    obtain ⟨v, r, rfl, h1, h2⟩ := h
    cases n with
    | zero => simpa using RdL.cons k h2
    | succ n => simpa using RdL.cons h1 (RdL.set n h2 k)
theorem RdL.ints {G : Hp} : ∀ (ns : List Int), RdL K G (ns.map Dat.int) (ns.map V.int)
  | [] => RdL.nil
  | n :: ns => RdL.cons (by unfold RdD; rfl) (RdL.ints ns)

/-- the tracked heap and the part that stays grow; what is new there is fresh -/
structure Ext (H G H' G' : Hp) : Prop where
  h : Same H H'
  g : Same G G'
  s : Same G' H'
  f : ∀ a, H a ≠ none → G a = none → G' a = none
theorem Ext.refl {H G : Hp} (s : Same G H) : Ext H G H G := ⟨Same.refl _, Same.refl _, s, fun _ _ h => h⟩
theorem Ext.trans {H G H1 G1 H2 G2 : Hp} (a : Ext H G H1 G1) (b : Ext H1 G1 H2 G2) : Ext H G H2 G2 :=
  ⟨a.h.trans b.h, a.g.trans b.g, b.s, fun x hx hg => b.f x (fun z => hx (a.h.free z)) (a.f x hx hg)⟩
theorem same_upd {H : Hp} {a : Addr} {o : HO} (n : H a = none) : Same H (upd H a o) := fun b u e => by rw [upd_ne (ne_of_none e n)]; exact e
theorem same_upd2 {G H : Hp} {a : Addr} {o : HO} (s : Same G H) (e : H a = some o) : Same (upd G a o) H := fun b u h => by
  by_cases hb : b = a
  · subst hb; rw [upd_same] at h; rw [← h]; exact e
  · rw [upd_ne hb] at h; exact s _ _ h
/-- a new object, put into the part that stays -/
theorem Ext.newG {H G : Hp} {p : Addr} {o : HO} (s : Same G H) (n : H p = none) : Ext H G (upd H p o) (upd G p o) := by
  refine ⟨same_upd n, same_upd (s.free n), fun b u h => ?_, fun a ha hg => ?_⟩
  · by_cases hb : b = p
    · subst hb; rw [upd_same] at h ⊢; exact h
    · rw [upd_ne hb] at h ⊢; exact s _ _ h
  · have : a ≠ p := fun e => ha (by rw [e]; exact n)
    rw [upd_ne this]; exact hg
/-- a new object that is held apart -/
theorem Ext.newH {H G : Hp} {p : Addr} {o : HO} (s : Same G H) (n : H p = none) : Ext H G (upd H p o) G :=
  ⟨same_upd n, Same.refl _, s.trans (same_upd n), fun _ _ h => h⟩
/-- an object that was made since is put into the part that stays -/
theorem Ext.put {H G H' G' : Hp} {p : Addr} {o : HO} (x : Ext H G H' G') (n : H p = none) (e : H' p = some o) (g : G' p = none) : Ext H G H' (upd G' p o) ∧ Same G' (upd G' p o) := by
  refine ⟨⟨x.h, x.g.trans (same_upd g), same_upd2 x.s e, fun a ha hg => ?_⟩, same_upd g⟩
  have : a ≠ p := fun z => ha (by rw [z]; exact n)
  rw [upd_ne this]; exact x.f a ha hg

inductive Sl where
  | un | fz (d : Dat) | ow (ds : List Dat) | br (ds : List Dat) | adr (a : Addr) | dc (a : Addr) (kvs : List (Dat × V))
/-! own dicts: their keys are tuples of ints, and of such tuples -/
mutual
def nkD : Dat → NestedKey
  | .non => .none
  | .bl b => .num (if b = true then 1 else 0)
  | .int i => .num i
  | .str x => .text x
  | .tup ds => .tup (nkL ds)
  | .lst _ => .none
  | .dic _ => .none
def nkL : List Dat → List NestedKey
  | [] => []
  | d :: ds => nkD d :: nkL ds
end
mutual
def kOk : Nat → Dat → Bool
  | _, .int _ => true
  | n + 1, .tup ds => kOkL n ds
  | _, _ => false
def kOkL : Nat → List Dat → Bool
  | _, [] => true
  | n, d :: ds => kOk n d && kOkL n ds
end
/-- the dict at a, its object's entries being es -/
def rawO (a : Addr) (es : Array DictEntry) : HO := .ext fun h => ∃ o ep, h.get? a = some o ∧ o.ExactDict ∧ o.data = .dict es ep
def DcK (K : PySem.W.Frag) (G : Hp) (p : Dat × V) (x : NestedKey × Addr × Value) : Prop := nkD p.1 = x.1 ∧ kOk 6 p.1 = true ∧ RdD K G p.1 (.ref x.2.1) ∧ RelV p.2 x.2.2
def DcR (K : PySem.W.Frag) (G H : Hp) (a : Addr) (kvs : List (Dat × V)) : Prop :=
  ∃ (xs : List (NestedKey × Addr × Value)) (es : Array DictEntry), H a = some (rawO a es) ∧ (∀ w : World, es.toList = xs.map fun x => ⟨x.1.hash w, .ref x.2.1, x.2.2⟩) ∧ Paired (DcK K G) kvs xs ∧ (xs.map (·.1)).Nodup ∧ xs.length ≤ sizeLine ∧ (a == sysModules) = false
/-- what an expression gives: data; a new list; a list that stands (the caller's; one's own) -/
inductive Rv where
  | v (x : Dat) | n (ds : List Dat) | b (ds : List Dat) | o (ds : List Dat)
def Rv.dat : Rv → Dat
  | .v x => x
  | .n ds => .lst ds
  | .b ds => .lst ds
  | .o ds => .lst ds

/-- what may be handed back -/
def retOk : Rv → Bool
  | .o _ => false
  | .b _ => false
  | _ => true
def SlR (K : PySem.W.Frag) (H0 G H : Hp) : Sl → Option (Option V) → Prop
  | .un, _ => True
  | .fz d, o => ∃ v, o = some (some v) ∧ RdD K G d v
  | .ow ds, o => ∃ l vs, o = some (some (.ref l)) ∧ H l = some (.lst vs) ∧ RdL K G ds vs ∧ G l = none ∧ H0 l = none
  | .br ds, o => ∃ l vs, o = some (some (.ref l)) ∧ SqL K H0 l vs ∧ RdL K G ds vs
  | .adr a, o => o = some (some (.ref a))
  | .dc a kvs, o => o = some (some (.ref a)) ∧ DcR K G H a kvs ∧ G a = none ∧ H0 a = none
theorem DcR.mono {K : PySem.W.Frag} {G G' H H' : Hp} {a : Addr} {kvs : List (Dat × V)} (x : DcR K G H a kvs) (g : Same G G') (h : ∀ o, H a = some o → H' a = some o) : DcR K G' H' a kvs := by
  obtain ⟨xs, es, e1, e2, e3, e4⟩ := x
  exact ⟨xs, es, h _ e1, e2, L2.Paired.mapP e3 fun p x z => ⟨z.1, z.2.1, RdD.mono g _ _ z.2.2.1, z.2.2.2⟩, e4⟩
theorem DcR.at {K : PySem.W.Frag} {G H : Hp} {a : Addr} {kvs : List (Dat × V)} (x : DcR K G H a kvs) : ∃ es, H a = some (rawO a es) := let ⟨_, es, e, _⟩ := x; ⟨es, e⟩
structure Rel (K : PySem.W.Frag) (H0 G0 G : Hp) (ρ : List Sl) (σ : L2.St) (H : Hp) : Prop where
  ext : Ext H0 G0 H G
  len : ρ.length = σ.length
  sl : ∀ (i : Nat) (s : Sl), ρ[i]? = some s → SlR K H0 G H s σ[i]?
  inj : ∀ (i j : Nat) (ds es : List Dat) (l : Addr), ρ[i]? = some (.ow ds) → ρ[j]? = some (.ow es) → σ[i]? = some (some (.ref l)) → σ[j]? = some (some (.ref l)) → i = j
def RvR (K : PySem.W.Frag) (H0 G H H' : Hp) : Rv → V → Prop
  | .v x, v => RdD K G x v
  | .n ds, v => ∃ l vs, v = .ref l ∧ H' l = some (.lst vs) ∧ RdL K G ds vs ∧ H l = none ∧ G l = none
  | .b ds, v => ∃ l vs, v = .ref l ∧ SqL K H0 l vs ∧ RdL K G ds vs
  | .o ds, v => ∃ l vs, v = .ref l ∧ H' l = some (.lst vs) ∧ RdL K G ds vs
theorem RvR.back {H0 G H H1 H' : Hp} {r : Rv} {v : V} (s : Same H H1) (h : RvR K H0 G H1 H' r v) : RvR K H0 G H H' r v := by
  cases r with
  | v x => exact h
  | n ds => obtain ⟨l, vs, a, b, c, d, e⟩ := h; exact ⟨l, vs, a, b, c, s.free d, e⟩
  | b ds => exact h
  | o ds => exact h
theorem RvR.on {H0 G H H1 G' H2 : Hp} {r : Rv} {v : V} (x : Ext H1 G H2 G') (h : RvR K H0 G H H1 r v) : RvR K H0 G' H H2 r v := by
  cases r with
  | v d => exact RdD.mono x.g _ _ h
  | n ds =>
    obtain ⟨l, vs, a, b, c, d, e⟩ := h
    exact ⟨l, vs, a, x.h _ _ b, c.mono x.g, d, x.f l (by rw [b]; exact fun z => nomatch z) e⟩
  | b ds => obtain ⟨l, vs, a, b, c⟩ := h; exact ⟨l, vs, a, b, c.mono x.g⟩
  | o ds => obtain ⟨l, vs, a, b, c⟩ := h; exact ⟨l, vs, a, x.h _ _ b, c.mono x.g⟩
/-- as data of the whole heap -/
theorem RvR.read {H0 G H H' : Hp} {r : Rv} {v : V} (s : Same G H') (s0 : Same H0 H') (h : RvR K H0 G H H' r v) : RdD K H' r.dat v := by
  cases r with
  | v d => exact RdD.mono s _ _ h
  | n ds => obtain ⟨l, vs, a, b, c, d, e⟩ := h; show RdD K H' (.lst ds) v; unfold RdD; exact ⟨l, vs, a, sq_of b, c.mono s⟩
  | b ds => obtain ⟨l, vs, a, b, c⟩ := h; show RdD K H' (.lst ds) v; unfold RdD; exact ⟨l, vs, a, rd_mono s0 b, c.mono s⟩
  | o ds => obtain ⟨l, vs, a, b, c⟩ := h; show RdD K H' (.lst ds) v; unfold RdD; exact ⟨l, vs, a, sq_of b, c.mono s⟩
/-- a list, whichever: where it stands, its items in the part that stays -/
theorem RvR.lst {H0 G H H' : Hp} {r : Rv} {v : V} {ds : List Dat} (s : Same G H') (s0 : Same H0 H') (h : RvR K H0 G H H' r v) (e : r.dat = .lst ds) : ∃ l vs, v = .ref l ∧ SqL K H' l vs ∧ RdL K G ds vs := by
  cases r with
  | v d =>
    have e : d = .lst ds := e
    subst e
    have h : RdD _ G (.lst ds) v := h
    unfold RdD at h
    obtain ⟨l, vs, a, b, c⟩ := h
    exact ⟨l, vs, a, rd_mono s b, c⟩
  | n es => obtain ⟨l, vs, a, b, c, d, f⟩ := h; injection e with e; subst e; exact ⟨l, vs, a, sq_of b, c⟩
  | b es => obtain ⟨l, vs, a, b, c⟩ := h; injection e with e; subst e; exact ⟨l, vs, a, rd_mono s0 b, c⟩
  | o es => obtain ⟨l, vs, a, b, c⟩ := h; injection e with e; subst e; exact ⟨l, vs, a, sq_of b, c⟩
theorem Rel.on {H0 G0 G G' H H' : Hp} {ρ : List Sl} {σ : L2.St} (R : Rel K H0 G0 G ρ σ H) (x : Ext H G H' G') : Rel K H0 G0 G' ρ σ H' := by
  refine ⟨R.ext.trans x, R.len, fun i s e => ?_, R.inj⟩
  have h := R.sl i s e
  cases s with
  | un => trivial
  | fz d => obtain ⟨v, a, b⟩ := h; exact ⟨v, a, RdD.mono x.g _ _ b⟩
  | ow ds =>
    obtain ⟨l, vs, a, b, c, d, e⟩ := h
    exact ⟨l, vs, a, x.h _ _ b, c.mono x.g, x.f l (by rw [b]; exact fun z => nomatch z) d, e⟩
  | br ds => obtain ⟨l, vs, a, b, c⟩ := h; exact ⟨l, vs, a, b, c.mono x.g⟩
  | adr a => exact h
  | dc a kvs =>
    obtain ⟨e1, e2, e3, e4⟩ := h
    obtain ⟨es, ea⟩ := e2.at
    exact ⟨e1, e2.mono x.g fun o => x.h _ _, x.f a (by rw [ea]; exact fun z => nomatch z) e3, e4⟩

/-! ### judgements -/
abbrev DE := List Sl → (Rv → Prop) → (Str → Prop) → Prop
abbrev DA := List Sl → (List Rv → Prop) → (Str → Prop) → Prop
abbrev DT := List Sl → (Bool → Prop) → (Str → Prop) → Prop
structure DEnds where
  nx : List Sl → Prop
  rt : Rv → Prop
  bk : List Sl → Prop
  ct : List Sl → Prop
  ex : Str → List Sl → Prop
abbrev DS := DEnds → List Sl → Prop

abbrev MG := Str → Option Value
/-- what is wished of an exception -/
def XOk (mg : MG) (W : WX) (H G : Hp) (σ : L2.St) (ε : Str → Prop) : Prop := ∀ nm cls H' G', Ext H G H' G' → mg nm = some cls → ε nm → W cls none σ H'
theorem XOk.on {mg : MG} {W : WX} {H G H1 G1 : Hp} {σ : L2.St} {ε : Str → Prop} (x : XOk mg W H G σ ε) (e : Ext H G H1 G1) : XOk mg W H1 G1 σ ε :=
  fun nm cls H' G' e' h k => x nm cls H' G' (e.trans e') h k
def EOk (K : PySem.W.Frag) (mg : MG) (W : WX) (t : TE) (δ : DE) : Prop := ∀ H0 G0 G ρ σ H (Q : VK) κ ε, Rel K H0 G0 G ρ σ H → δ ρ κ ε →
  (∀ v H' G' r, Ext H G H' G' → RvR K H0 G' H H' r v → κ r → Q v H') → XOk mg W H G σ ε → t σ H Q
def TOk (K : PySem.W.Frag) (mg : MG) (W : WX) (t : TT) (δ : DT) : Prop := ∀ H0 G0 G ρ σ H (Q : Bool → Hp → Prop) κ ε, Rel K H0 G0 G ρ σ H → δ ρ κ ε →
  (∀ b H' G', Ext H G H' G' → κ b → Q b H') → XOk mg W H G σ ε → t σ H Q
def RvsR (K : PySem.W.Frag) (H0 G H H' : Hp) : List Rv → List V → Prop
  | [], vs => vs = []
  | r :: rs, vs => ∃ v w, vs = v :: w ∧ RvR K H0 G H H' r v ∧ RvsR K H0 G H H' rs w
def AOk (K : PySem.W.Frag) (mg : MG) (W : WX) (t : TA) (δ : DA) : Prop := ∀ H0 G0 G ρ σ H (Q : List V → Hp → Prop) κ ε, Rel K H0 G0 G ρ σ H → δ ρ κ ε →
  (∀ vs H' G' rs, Ext H G H' G' → RvsR K H0 G' H H' rs vs → κ rs → Q vs H') → XOk mg W H G σ ε → t σ H Q
structure EndsOk (K : PySem.W.Frag) (mg : MG) (W : WX) (H0 G0 : Hp) (D : Ends) (κ : DEnds) : Prop where
  nx : ∀ ρ σ H G, Rel K H0 G0 G ρ σ H → κ.nx ρ → D.nx σ H
  bk : ∀ ρ σ H G, Rel K H0 G0 G ρ σ H → κ.bk ρ → D.bk σ H
  ct : ∀ ρ σ H G, Rel K H0 G0 G ρ σ H → κ.ct ρ → D.ct σ H
  rt : ∀ v H G r, Ext H0 G0 H G → RvR K H0 G H0 H r v → retOk r = true → κ.rt r → D.rt v H
  ex : ∀ nm cls ρ σ H G, Rel K H0 G0 G ρ σ H → mg nm = some cls → κ.ex nm ρ → W cls none σ H
def SOk (K : PySem.W.Frag) (mg : MG) (W : WX) (t : TS) (δ : DS) : Prop := ∀ H0 G0 G ρ σ H (D : Ends) κ, Rel K H0 G0 G ρ σ H → δ κ ρ → EndsOk K mg W H0 G0 D κ → t D σ H
/-- the wish of exceptions at an expression of a statement -/
theorem EndsOk.xok {mg : MG} {W : WX} {H0 G0 G H : Hp} {ρ : List Sl} {σ : L2.St} {D : Ends} {κ : DEnds} (E : EndsOk K mg W H0 G0 D κ) (R : Rel K H0 G0 G ρ σ H) : XOk mg W H G σ (fun nm => κ.ex nm ρ) :=
  fun nm cls H' G' x h k => E.ex nm cls ρ σ H' G' (R.on x) h k

structure ME (X : Cx) (W : WX) (e : Expr) (δ : DE) : Prop where
  ex : ∃ t, PE X e t ∧ EOk X.K X.mg W t δ
structure MT (X : Cx) (W : WX) (e : Expr) (δ : DT) : Prop where
  ex : ∃ t, PT X e t ∧ TOk X.K X.mg W t δ
structure MA (X : Cx) (W : WX) (es : List Expr) (δ : DA) : Prop where
  ex : ∃ t, PA X es t ∧ AOk X.K X.mg W t δ
structure MS (X : Cx) (W : WX) (s : Stmt) (δ : DS) : Prop where
  ex : ∃ t, PS X s t ∧ SOk X.K X.mg W t δ
structure MSs (X : Cx) (W : WX) (s : List Stmt) (δ : DS) : Prop where
  ex : ∃ t, PSs X s t ∧ SOk X.K X.mg W t δ
end DL
namespace DL
open PySem PySem.Spec PyProof.Rows L2
variable {K : PySem.W.Frag}

/-! ### combinators -/
def dVar (i : Nat) : DE := fun ρ κ _ => match ρ[i]? with
  | some (.fz d) => κ (.v d)
  | some (.ow ds) => κ (.o ds)
  | some (.br ds) => κ (.b ds)
  | _ => False
def dC (d : Dat) : DE := fun _ κ _ => κ (.v d)
/-- two in a row, then what is made of both -/
def dBin (k : Rv → Rv → (Rv → Prop) → (Str → Prop) → Prop) (a b : DE) : DE := fun ρ κ ε => a ρ (fun x => b ρ (fun y => k x y κ ε) ε) ε
def dUn (k : Rv → (Rv → Prop) → (Str → Prop) → Prop) (a : DE) : DE := fun ρ κ ε => a ρ (fun x => k x κ ε) ε
def asI (r : Rv) (k : Int → Prop) : Prop := match r with
  | .v (.int i) => k i
  | _ => False
def asB (r : Rv) (k : Bool → Prop) : Prop := match r with
  | .v (.bl i) => k i
  | _ => False
def asL (r : Rv) (k : List Dat → Prop) : Prop := match r.dat with
  | .lst ds => k ds
  | _ => False
/-- list or tuple -/
def asQ (r : Rv) (k : List Dat → Prop) : Prop := match r.dat with
  | .lst ds => k ds
  | .tup ds => k ds
  | _ => False
/-- of a thing that must be there -/
inductive onS {α : Type} (o : Option α) (k : α → Prop) : Prop where
  | mk (x : α) (e : o = some x) (h : k x) : onS o k
theorem onS_some {α : Type} {o : Option α} {x : α} {k : α → Prop} (e : o = some x) (h : k x) : onS o k := .mk x e h
theorem onS.of {α : Type} {o : Option α} {k : α → Prop} (h : onS o k) : ∃ x, o = some x ∧ k x := by
  cases h with
  | mk x e h => exact ⟨x, e, h⟩
theorem asI.of {r : Rv} {k : Int → Prop} (h : asI r k) : ∃ i, r = .v (.int i) ∧ k i := by
  unfold asI at h
  split at h
  · exact ⟨_, rfl, h⟩
  · exact h.elim
theorem asB.of {r : Rv} {k : Bool → Prop} (h : asB r k) : ∃ i, r = .v (.bl i) ∧ k i := by
  unfold asB at h
  split at h
  · exact ⟨_, rfl, h⟩
  · exact h.elim
theorem asL.of {r : Rv} {k : List Dat → Prop} (h : asL r k) : ∃ ds, r.dat = .lst ds ∧ k ds := by
  unfold asL at h
  split at h
  · rename_i e; exact ⟨_, e, h⟩
  · exact h.elim
theorem asQ.of {r : Rv} {k : List Dat → Prop} (h : asQ r k) : ∃ ds, (r.dat = .lst ds ∨ r.dat = .tup ds) ∧ k ds := by
  unfold asQ at h
  split at h
  · rename_i e; exact ⟨_, .inl e, h⟩
  · rename_i e; exact ⟨_, .inr e, h⟩
  · exact h.elim

/-- what an operation on two values does, over data -/
def Op2 (K : PySem.W.Frag) (r : R2) (k : Rv → Rv → (Rv → Prop) → (Str → Prop) → Prop) : Prop :=
  ∀ (H0 G Hs H : Hp) (x y : Rv) (v u : V) (Q : VK) (κ : Rv → Prop) (ε : Str → Prop), Same G H → Same H0 H → Same Hs H → RvR K H0 G Hs H x v → RvR K H0 G Hs H y u → k x y κ ε →
    (∀ w H' G' z, Ext H G H' G' → RvR K H0 G' H H' z w → κ z → Q w H') → r v u H Q
def Op1 (K : PySem.W.Frag) (r : V → Hp → VK → Prop) (k : Rv → (Rv → Prop) → (Str → Prop) → Prop) : Prop :=
  ∀ (H0 G Hs H : Hp) (x : Rv) (v : V) (Q : VK) (κ : Rv → Prop) (ε : Str → Prop), Same G H → Same H0 H → Same Hs H → RvR K H0 G Hs H x v → k x κ ε →
    (∀ w H' G' z, Ext H G H' G' → RvR K H0 G' H H' z w → κ z → Q w H') → r v H Q

section
variable {mg : MG} {W : WX} {ta tb : TE} {a b : DE}
theorem eok_bin {r : R2} {k : Rv → Rv → (Rv → Prop) → (Str → Prop) → Prop} (ha : EOk K mg W ta a) (hb : EOk K mg W tb b) (hr : Op2 K r k) : EOk K mg W (tOp r ta tb) (dBin k a b) := by
  intro H0 G0 G ρ σ H Q κ ε R h hq hx
  refine ha H0 G0 G ρ σ H _ _ ε R h (fun v H1 G1 x e1 r1 h1 => ?_) hx
  have R1 := R.on e1
  refine hb H0 G0 G1 ρ σ H1 _ _ ε R1 h1 (fun u H2 G2 y e2 r2 h2 => ?_) (hx.on e1)
  have R2 := R1.on e2
  have e := e1.trans e2
  refine hr H0 G2 H H2 x y v u Q κ ε e2.s R2.ext.h e.h (r1.on e2) (r2.back e1.h) h2 (fun w H' G' z e3 r3 h3 => ?_)
  exact hq w H' G' z (e.trans e3) (r3.back e.h) h3
theorem eok_un {r : V → Hp → VK → Prop} {k : Rv → (Rv → Prop) → (Str → Prop) → Prop} (ha : EOk K mg W ta a) (hr : Op1 K r k) : EOk K mg W (tUn r ta) (dUn k a) := by
  intro H0 G0 G ρ σ H Q κ ε R h hq hx
  refine ha H0 G0 G ρ σ H _ _ ε R h (fun v H1 G1 x e1 r1 h1 => ?_) hx
  have R1 := R.on e1
  refine hr H0 G1 H H1 x v Q κ ε e1.s R1.ext.h e1.h r1 h1 (fun w H' G' z e3 r3 h3 => ?_)
  exact hq w H' G' z (e1.trans e3) (r3.back e1.h) h3
theorem eok_var (i : Nat) : EOk K mg W (tVar i) (dVar i) := by
  intro H0 G0 G ρ σ H Q κ ε R h hq hx
  unfold dVar at h
  have x := Ext.refl R.ext.s
  split at h
  · rename_i d e
    obtain ⟨v, e1, e2⟩ := R.sl _ _ e
    exact ⟨v, e1, hq v H G (.v d) x e2 h⟩
  · rename_i d e
    obtain ⟨l, vs, e1, e2, e3, e4, e5⟩ := R.sl _ _ e
    exact ⟨.ref l, e1, hq _ H G (.o d) x ⟨l, vs, rfl, e2, e3⟩ h⟩
  · rename_i d e
    obtain ⟨l, vs, e1, e2, e3⟩ := R.sl _ _ e
    exact ⟨.ref l, e1, hq _ H G (.b d) x ⟨l, vs, rfl, e2, e3⟩ h⟩
  · exact h.elim
theorem eok_c {v : V} {d : Dat} (hd : ∀ G, RdD K G d v) : EOk K mg W (tC v) (dC d) := by
  intro H0 G0 G ρ σ H Q κ ε R h hq hx
  exact hq v H G (.v d) (Ext.refl R.ext.s) (hd G) h
end

section
variable {X : Cx} {W : WX} {a b c e : Expr} {da db dc : DE} {pos : Pos}
theorem me_var (i : Nat) {x : Str} (hN : X.N[i]? = some x := by rfl) (hv : Vis X.env.scope x := by first | exact Or.inl rfl | exact Or.inr (Or.inl rfl) | exact Or.inr (Or.inr rfl)) (hd : (x == ("__debug__" : Str)) = false := by decide)
    (hcd : (x == ("__classdict__" : Str)) = false := by decide) : ME X W (.Name x pos) (dVar i) := ⟨_, pe_var hN hv hd hcd, eok_var i⟩
theorem me_int {i : Int} {j : Nat} : ME X W (.Constant (.int i) j pos) (dC (.int i)) := ⟨_, pe_int, eok_c fun _ => by unfold RdD; rfl⟩
theorem me_bl {i : Bool} {j : Nat} : ME X W (.Constant (.bool i) j pos) (dC (.bl i)) := ⟨_, pe_bl, eok_c fun _ => by unfold RdD; rfl⟩
theorem me_non {j : Nat} : ME X W (.Constant .none j pos) (dC .non) := ⟨_, pe_non, eok_c fun _ => by unfold RdD; rfl⟩
theorem me_str {x : Str} {j : Nat} : ME X W (.Constant (.str x) j pos) (dC (.str x)) := ⟨_, pe_str, eok_c fun _ => by unfold RdD; rfl⟩
/-- a module's constant, an int -/
theorem me_glob {x : Str} {i : Int} {t : Tok} (hg : Gl X x) (hm : X.mg x = some (.int i t)) (hd : (x == ("__debug__" : Str)) = false := by decide) : ME X W (.Name x pos) (dC (.int i)) := ⟨_, pe_glob (v := .int i) hg hm ⟨t, rfl⟩ hd, eok_c fun _ => by unfold RdD; rfl⟩
theorem me_bin {op : Operator} {r : R2} {k : Rv → Rv → (Rv → Prop) → (Str → Prop) → Prop} (ho : OpR X (binaryOp op) r) (hr : Op2 X.K r k) (ha : ME X W a da) (hb : ME X W b db) : ME X W (.BinOp a op b pos) (dBin k da db) := by
  obtain ⟨ta, pa, oa⟩ := ha
  obtain ⟨tb, pb, ob⟩ := hb
  exact ⟨_, pe_op ho pa pb, eok_bin oa ob hr⟩
theorem me_un {op : UnaryOp} {r : V → Hp → VK → Prop} {k : Rv → (Rv → Prop) → (Str → Prop) → Prop} (ho : UnR X (unaryOp op) r) (hr : Op1 X.K r k) (ha : ME X W a da) : ME X W (.UnaryOp op a pos) (dUn k da) := by
  obtain ⟨ta, pa, oa⟩ := ha
  exact ⟨_, pe_un ho pa, eok_un oa hr⟩
theorem me_cmp {op : CmpOp} {r : R2} {k : Rv → Rv → (Rv → Prop) → (Str → Prop) → Prop} (ho : OpR X (compareOp op) r) (hr : Op2 X.K r k) (ha : ME X W a da) (hb : ME X W b db) (hm : behindInMarks op b = false) : ME X W (.Compare a [op] [b] pos) (dBin k da db) := by
  obtain ⟨ta, pa, oa⟩ := ha
  obtain ⟨tb, pb, ob⟩ := hb
  exact ⟨_, pe_cmpR ho pa pb hm, eok_bin oa ob hr⟩
end

/-! ### operations on ints -/
def kI (C : Int → Int → Prop) (g : Int → Int → Dat) : Rv → Rv → (Rv → Prop) → (Str → Prop) → Prop := fun x y κ _ => asI x fun i => asI y fun j => C i j ∧ κ (.v (g i j))
def kI0 (g : Int → Int → Dat) : Rv → Rv → (Rv → Prop) → (Str → Prop) → Prop := fun x y κ _ => asI x fun i => asI y fun j => κ (.v (g i j))
def kU (g : Int → Dat) : Rv → (Rv → Prop) → (Str → Prop) → Prop := fun x κ _ => asI x fun i => κ (.v (g i))
theorem op2_I {C : Int → Int → Prop} {g : Int → Int → V} {g' : Int → Int → Dat} (hg : ∀ i j G, RdD K G (g' i j) (g i j)) : Op2 K (rI C g) (kI C g') := by
  intro H0 G Hs H x y v u Q κ ε s s0 sh rx ry h q
  obtain ⟨i, rfl, h1⟩ := asI.of h
  obtain ⟨j, rfl, hc, hk⟩ := asI.of h1
  have rx : RdD K G (.int i) v := rx
  have ry : RdD K G (.int j) u := ry
  unfold RdD at rx ry
  exact ⟨i, j, rx, ry, hc, q _ H G (.v (g' i j)) (Ext.refl s) (hg i j G) hk⟩
theorem op2_I0 {g : Int → Int → V} {g' : Int → Int → Dat} (hg : ∀ i j G, RdD K G (g' i j) (g i j)) : Op2 K (rI0 g) (kI0 g') := by
  intro H0 G Hs H x y v u Q κ ε s s0 sh rx ry h q
  obtain ⟨i, rfl, h1⟩ := asI.of h
  obtain ⟨j, rfl, hk⟩ := asI.of h1
  have rx : RdD K G (.int i) v := rx
  have ry : RdD K G (.int j) u := ry
  unfold RdD at rx ry
  exact ⟨i, j, rx, ry, q _ H G (.v (g' i j)) (Ext.refl s) (hg i j G) hk⟩
theorem op1_U {g : Int → V} {g' : Int → Dat} (hg : ∀ i G, RdD K G (g' i) (g i)) : Op1 K (rU g) (kU g') := by
  intro H0 G Hs H x v Q κ ε s s0 sh rx h q
  obtain ⟨i, rfl, hk⟩ := asI.of h
  have rx : RdD K G (.int i) v := rx
  unfold RdD at rx
  exact ⟨i, rx, q _ H G (.v (g' i)) (Ext.refl s) (hg i G) hk⟩
/-- a number of at most so many bits -/
def Sz (k : Nat) (i : Int) : Prop := i.natAbs.log2 < k
def MulOk (i j : Int) : Prop := i.natAbs.log2 + j.natAbs.log2 < 100000000
theorem MulOk.ok {i j : Int} (h : MulOk i j) : IntMulOk i j := by
  have b : ∀ x : Int, Builtin.Int.intBits x ≤ x.natAbs.log2 + 1 := fun x => by
    unfold Builtin.Int.intBits
    split <;> omega
  unfold IntMulOk
  intro z
  rw [Bool.and_eq_true] at z
  obtain ⟨_, z⟩ := z
  unfold Builtin.Int.intTooBig at z
  have z := of_decide_eq_true z
  rw [show bitsLine = 134217728 by decide] at z
  unfold MulOk at h
  have p := b i
  have q := b j
  omega
def DivOk (_ j : Int) : Prop := j ≠ 0 ∧ j.natAbs.log2 < 9000
def DivP (_ j : Int) : Prop := 0 < j ∧ j.natAbs.log2 < 9000
def ModOk (_ j : Int) : Prop := j ≠ 0
def ModP (_ j : Int) : Prop := 0 < j
section
variable {X : Cx}
theorem op_mulD : OpR X (binaryOp .Mult) (rI MulOk fun i j => .int (i * j)) := opI fun _ _ _ _ _ _ _ hc q => mul_int q hc.ok
theorem op_fdivD : OpR X (binaryOp .FloorDiv) (rI DivOk fun i j => .int (i.fdiv j)) := opI fun _ _ _ _ _ _ _ hc q => floordiv_int hc.1 q (.inl (PyProof.noPylong_of_log2 hc.2))
theorem op_fdivP : OpR X (binaryOp .FloorDiv) (rI DivP fun i j => .int (i / j)) := opI fun i j _ _ _ _ _ hc q => by
  have p : 0 < j := hc.1
  refine floordiv_int (Int.ne_of_gt p) ?_ (.inl (PyProof.noPylong_of_log2 hc.2))
  rw [Int.fdiv_eq_ediv_of_nonneg i (Int.le_of_lt p)]; exact q
variable {W : WX} {a b : Expr} {da db : DE} {pos : Pos}
def dAdd := dBin (kI0 fun i j => .int (i + j))
def dSub := dBin (kI0 fun i j => .int (i - j))
def dMul := dBin (kI MulOk fun i j => .int (i * j))
def dDiv := dBin (kI DivOk fun i j => .int (i.fdiv j))
def dMod := dBin (kI ModOk fun i j => .int (i.fmod j))
def dDivP := dBin (kI DivP fun i j => .int (i / j))
def dModP := dBin (kI ModP fun i j => .int (i % j))
def dPow := dBin (kI CPow fun i j => .int (i ^ j.toNat))
def dLt := dBin (kI0 fun i j => .bl (decide (i < j)))
def dLe := dBin (kI0 fun i j => .bl (decide (i ≤ j)))
def dGt := dBin (kI0 fun i j => .bl (decide (j < i)))
def dGe := dBin (kI0 fun i j => .bl (decide (j ≤ i)))
def dEqI := dBin (kI0 fun i j => .bl (decide (i = j)))
def dNeI := dBin (kI0 fun i j => .bl (!decide (i = j)))
def dNeg := dUn (kU fun i => .int (-i))
theorem rdI {f : Int → Int → Int} (i j : Int) (G : Hp) : RdD K G (Dat.int (f i j)) (V.int (f i j)) := by unfold RdD; rfl
theorem rdB {f : Int → Int → Bool} (i j : Int) (G : Hp) : RdD K G (Dat.bl (f i j)) (V.bl (f i j)) := by unfold RdD; rfl
theorem me_add (ha : ME X W a da) (hb : ME X W b db) : ME X W (.BinOp a .Add b pos) (dAdd da db) := me_bin op_add (op2_I0 rdI) ha hb
theorem me_sub (ha : ME X W a da) (hb : ME X W b db) : ME X W (.BinOp a .Sub b pos) (dSub da db) := me_bin op_sub (op2_I0 rdI) ha hb
theorem me_mul (ha : ME X W a da) (hb : ME X W b db) : ME X W (.BinOp a .Mult b pos) (dMul da db) := me_bin op_mulD (op2_I rdI) ha hb
theorem me_div (ha : ME X W a da) (hb : ME X W b db) : ME X W (.BinOp a .FloorDiv b pos) (dDiv da db) := me_bin op_fdivD (op2_I rdI) ha hb
theorem me_divP (ha : ME X W a da) (hb : ME X W b db) : ME X W (.BinOp a .FloorDiv b pos) (dDivP da db) := me_bin op_fdivP (op2_I rdI) ha hb
theorem me_mod (ha : ME X W a da) (hb : ME X W b db) : ME X W (.BinOp a .Mod b pos) (dMod da db) := me_bin op_modN (op2_I (C := ModOk) rdI) ha hb
theorem me_modP (ha : ME X W a da) (hb : ME X W b db) : ME X W (.BinOp a .Mod b pos) (dModP da db) := me_bin op_mod (op2_I (C := ModP) rdI) ha hb
theorem me_pow (ha : ME X W a da) (hb : ME X W b db) : ME X W (.BinOp a .Pow b pos) (dPow da db) := me_bin op_pow (op2_I rdI) ha hb
theorem me_neg (ha : ME X W a da) : ME X W (.UnaryOp .USub a pos) (dNeg da) := me_un un_neg (op1_U fun i G => by unfold RdD; rfl) ha
theorem me_lt (ha : ME X W a da) (hb : ME X W b db) : ME X W (.Compare a [.Lt] [b] pos) (dLt da db) := me_cmp op_lt (op2_I0 rdB) ha hb (nomark _)
theorem me_le (ha : ME X W a da) (hb : ME X W b db) : ME X W (.Compare a [.LtE] [b] pos) (dLe da db) := me_cmp op_le (op2_I0 rdB) ha hb (nomark _)
theorem me_gt (ha : ME X W a da) (hb : ME X W b db) : ME X W (.Compare a [.Gt] [b] pos) (dGt da db) := me_cmp op_gt (op2_I0 rdB) ha hb (nomark _)
theorem me_ge (ha : ME X W a da) (hb : ME X W b db) : ME X W (.Compare a [.GtE] [b] pos) (dGe da db) := me_cmp op_ge (op2_I0 rdB) ha hb (nomark _)
end

/-! ### == of data -/
mutual
def toPy : Dat → PyData
  | .non => .none
  | .bl b => .bool b
  | .int i => .int i
  | .str x => .str x
  | .tup ds => .tuple (toPyL ds)
  | .lst ds => .list (toPyL ds)
  | .dic _ => .none
def toPyL : List Dat → List PyData
  | [] => []
  | d :: ds => toPy d :: toPyL ds
end
mutual
/-- no dict within -/
def plainD : Dat → Bool
  | .tup ds => plainDL ds
  | .lst ds => plainDL ds
  | .dic _ => false
  | _ => true
def plainDL : List Dat → Bool
  | [] => true
  | d :: ds => plainD d && plainDL ds
end
mutual
theorem RdD.dp {K : PySem.W.Frag} {H : Hp} : ∀ (d : Dat) (v : V), plainD d = true → RdD K H d v → Dp K H v (toPy d)
  | .non, _, _, h => by unfold RdD at h; subst h; unfold toPy; exact .non
  | .bl b, _, _, h => by unfold RdD at h; subst h; unfold toPy; exact .bl b
  | .int i, _, _, h => by unfold RdD at h; subst h; unfold toPy; exact .int i
  | .str x, _, _, h => by unfold RdD at h; subst h; unfold toPy; exact .str x
  | .tup ds, v, p, h => by
    unfold plainD at p; unfold RdD at h; unfold toPy
    obtain ⟨a, vs, rfl, g, r⟩ := h
    exact .tup (SqT.of g) (RdL.dp ds vs p r)
  | .lst ds, v, p, h => by
    unfold plainD at p; unfold RdD at h; unfold toPy
    obtain ⟨a, vs, rfl, g, r⟩ := h
    exact .lst g (RdL.dp ds vs p r)
  | .dic _, _, p, _ => by unfold plainD at p; exact nomatch p
theorem RdL.dp {K : PySem.W.Frag} {H : Hp} : ∀ (ds : List Dat) (vs : List V), plainDL ds = true → RdL K H ds vs → DpAll K H vs (toPyL ds)
  | [], _, _, h => by unfold RdL at h; subst h; unfold toPyL; exact .nil
  | d :: ds, vs, p, h => by
    unfold plainDL at p; rw [Bool.and_eq_true] at p
    unfold RdL at h; unfold toPyL
    obtain ⟨v, r, rfl, h1, h2⟩ := h
    exact .cons (RdD.dp d v p.1 h1) (RdL.dp ds r p.2 h2)
end
mutual
/-- Python's == of data -/
def eqD : Dat → Dat → Bool
  | .non, .non => true
  | .bl a, .bl b => a == b
  | .bl a, .int j => (if a then 1 else 0) == j
  | .int i, .bl b => i == (if b then 1 else 0)
  | .int i, .int j => i == j
  | .str x, .str y => x == y
  | .tup xs, .tup ys => eqDL xs ys
  | .lst xs, .lst ys => eqDL xs ys
  | _, _ => false
def eqDL : List Dat → List Dat → Bool
  | [], [] => true
  | x :: xs, y :: ys => eqD x y && eqDL xs ys
  | _, _ => false
end
mutual
theorem eqD_py : ∀ a b : Dat, plainD a = true → plainD b = true → eqD a b = PyData.eqv (toPy a) (toPy b) := by
  intro a b ha hb
  cases a with
  | tup xs =>
    cases b with
    | tup ys => unfold plainD at ha hb; unfold eqD toPy PyData.eqv; exact eqDL_py xs ys ha hb
    | dic _ => unfold plainD at hb; exact nomatch hb
    | _ => unfold eqD toPy PyData.eqv; rfl
  | lst xs =>
    cases b with
    | lst ys => unfold plainD at ha hb; unfold eqD toPy PyData.eqv; exact eqDL_py xs ys ha hb
    | dic _ => unfold plainD at hb; exact nomatch hb
    | _ => unfold eqD toPy PyData.eqv; rfl
  | dic _ => unfold plainD at ha; exact nomatch ha
  | _ =>
    cases b with
    | dic _ => unfold plainD at hb; exact nomatch hb
    | _ => unfold eqD toPy PyData.eqv; rfl
theorem eqDL_py : ∀ a b : List Dat, plainDL a = true → plainDL b = true → eqDL a b = PyData.eqvAll (toPyL a) (toPyL b) := by
  intro a b ha hb
  cases a with
  | nil =>
    cases b with
    | nil => unfold eqDL toPyL PyData.eqvAll; rfl
    | cons y ys => unfold eqDL toPyL PyData.eqvAll; rfl
  | cons x xs =>
    cases b with
    | nil => unfold eqDL toPyL PyData.eqvAll; rfl
    | cons y ys =>
      unfold plainDL at ha hb
      rw [Bool.and_eq_true] at ha hb
      unfold eqDL toPyL PyData.eqvAll
      rw [eqD_py x y ha.1 hb.1, eqDL_py xs ys ha.2 hb.2]
end
mutual
/-- data that == goes through: no dict within, depth at most n -/
def shp : Nat → Dat → Bool
  | _, .non => true
  | _, .bl _ => true
  | _, .int _ => true
  | _, .str x => PyData.strOk x
  | n + 1, .tup ds => shpL n ds
  | n + 1, .lst ds => shpL n ds
  | _, _ => false
def shpL : Nat → List Dat → Bool
  | _, [] => true
  | n, d :: ds => shp n d && shpL n ds
end
mutual
theorem shp_ok : ∀ (n : Nat) (d : Dat), shp n d = true → plainD d = true ∧ (toPy d).canLay0 = true ∧ (toPy d).depth ≤ n
  | n, .non, _ => by unfold plainD toPy PyData.canLay0 PyData.depth; exact ⟨rfl, rfl, Nat.zero_le _⟩
  | n, .bl _, _ => by unfold plainD toPy PyData.canLay0 PyData.depth; exact ⟨rfl, rfl, Nat.zero_le _⟩
  | n, .int _, _ => by unfold plainD toPy PyData.canLay0 PyData.depth; exact ⟨rfl, rfl, Nat.zero_le _⟩
  | n, .str x, h => by unfold shp at h; unfold plainD toPy PyData.canLay0 PyData.depth; exact ⟨rfl, h, Nat.zero_le _⟩
  | 0, .tup ds, h => by unfold shp at h; exact nomatch h
  | 0, .lst ds, h => by unfold shp at h; exact nomatch h
  | n, .dic _, h => by cases n <;> (unfold shp at h; exact nomatch h)
  | n + 1, .tup ds, h => by
    unfold shp at h
    obtain ⟨a, b, c⟩ := shpL_ok n ds h
    unfold plainD toPy PyData.canLay0 PyData.depth
    exact ⟨a, b, Nat.succ_le_succ c⟩
  | n + 1, .lst ds, h => by
    unfold shp at h
    obtain ⟨a, b, c⟩ := shpL_ok n ds h
    unfold plainD toPy PyData.canLay0 PyData.depth
    exact ⟨a, b, Nat.succ_le_succ c⟩
theorem shpL_ok : ∀ (n : Nat) (ds : List Dat), shpL n ds = true → plainDL ds = true ∧ PyData.canLayAll0 (toPyL ds) = true ∧ PyData.depthAll (toPyL ds) ≤ n
  | n, [], _ => by unfold plainDL toPyL PyData.canLayAll0 PyData.depthAll; exact ⟨rfl, rfl, Nat.zero_le _⟩
  | n, d :: ds, h => by
    unfold shpL at h
    rw [Bool.and_eq_true] at h
    obtain ⟨a, b, c⟩ := shp_ok n d h.1
    obtain ⟨a2, b2, c2⟩ := shpL_ok n ds h.2
    unfold plainDL toPyL PyData.canLayAll0 PyData.depthAll
    exact ⟨by rw [a, a2]; rfl, by rw [b, b2]; rfl, Nat.max_le.mpr ⟨c, c2⟩⟩
end
theorem shp_shaped {d : Dat} (h : shp 64 d = true) : plainD d = true ∧ SeqAt.shaped (toPy d) = true := by
  obtain ⟨a, b, c⟩ := shp_ok 64 d h
  exact ⟨a, by unfold SeqAt.shaped; rw [b, decide_eq_true c]; rfl⟩
def kEq : Rv → Rv → (Rv → Prop) → (Str → Prop) → Prop := fun x y κ _ =>
  (shp 64 x.dat = true ∧ shp 64 y.dat = true) ∧ κ (.v (.bl (eqD x.dat y.dat)))
def kNe : Rv → Rv → (Rv → Prop) → (Str → Prop) → Prop := fun x y κ _ =>
  (shp 64 x.dat = true ∧ shp 64 y.dat = true) ∧ κ (.v (.bl (!eqD x.dat y.dat)))
theorem op2_eq {K : PySem.W.Frag} : Op2 K (rEqD K) kEq := by
  intro H0 G Hs H x y v u Q κ ε s s0 sh rx ry h q
  obtain ⟨⟨p1, p2⟩, hk⟩ := h
  obtain ⟨p1, p3⟩ := shp_shaped p1
  obtain ⟨p2, p4⟩ := shp_shaped p2
  refine ⟨_, _, RdD.dp _ _ p1 (rx.read s s0), RdD.dp _ _ p2 (ry.read s s0), p3, p4, ?_⟩
  rw [← eqD_py _ _ p1 p2]
  exact q _ H G (.v (.bl _)) (Ext.refl s) (by show RdD K G _ _; unfold RdD; rfl) hk
theorem op2_ne {K : PySem.W.Frag} : Op2 K (rNeD K) kNe := by
  intro H0 G Hs H x y v u Q κ ε s s0 sh rx ry h q
  obtain ⟨⟨p1, p2⟩, hk⟩ := h
  obtain ⟨p1, p3⟩ := shp_shaped p1
  obtain ⟨p2, p4⟩ := shp_shaped p2
  refine ⟨_, _, RdD.dp _ _ p1 (rx.read s s0), RdD.dp _ _ p2 (ry.read s s0), p3, p4, ?_⟩
  rw [← eqD_py _ _ p1 p2]
  exact q _ H G (.v (.bl _)) (Ext.refl s) (by show RdD K G _ _; unfold RdD; rfl) hk
end DL
namespace DL
open PySem PySem.Spec PyProof.Rows L2
variable {K : PySem.W.Frag}

/-! ### truths -/
def dAnd (a b : DE) : DE := fun ρ κ ε => a ρ (fun x => asB x fun c => if c = true then b ρ κ ε else κ (.v (.bl false))) ε
def dOr (a b : DE) : DE := fun ρ κ ε => a ρ (fun x => asB x fun c => if c = true then κ (.v (.bl true)) else b ρ κ ε) ε
def dNot (a : DE) : DE := fun ρ κ ε => a ρ (fun x => asB x fun c => κ (.v (.bl (!c)))) ε
def tVal (a : DE) : DT := fun ρ κ ε => a ρ (fun x => asB x κ) ε
def tAndD (a b : DT) : DT := fun ρ κ ε => a ρ (fun c => if c = true then b ρ κ ε else κ false) ε
def tOrD (a b : DT) : DT := fun ρ κ ε => a ρ (fun c => if c = true then κ true else b ρ κ ε) ε
def tNotD (a : DT) : DT := fun ρ κ ε => a ρ (fun c => κ (!c)) ε
theorem rd_bl {G : Hp} {b : Bool} : RdD K G (Dat.bl b) (V.bl b) := by unfold RdD; rfl
section
variable {mg : MG} {W : WX} {ta tb : TE} {a b : DE} {ua ub : TT} {p q : DT}
theorem eok_and (ha : EOk K mg W ta a) (hb : EOk K mg W tb b) : EOk K mg W (tAndV ta tb) (dAnd a b) := by
  intro H0 G0 G ρ σ H Q κ ε R h hq hx
  refine ha H0 G0 G ρ σ H _ _ ε R h (fun v H1 G1 x e1 r1 h1 => ?_) hx
  obtain ⟨c, rfl, k⟩ := asB.of h1
  have r1 : RdD K G1 (.bl c) v := r1
  unfold RdD at r1
  refine ⟨c, r1, ?_⟩
  by_cases hc : c = true
  · rw [if_pos hc] at k ⊢
    exact hb H0 G0 G1 ρ σ H1 Q κ ε (R.on e1) k (fun v2 H2 G2 z e2 r2 h2 => hq v2 H2 G2 z (e1.trans e2) (r2.back e1.h) h2) (hx.on e1)
  · rw [if_neg hc] at k ⊢
    exact hq _ H1 G1 (.v (.bl false)) e1 (rd_bl (K := K) (G := G1)) k
theorem eok_or (ha : EOk K mg W ta a) (hb : EOk K mg W tb b) : EOk K mg W (tOrV ta tb) (dOr a b) := by
  intro H0 G0 G ρ σ H Q κ ε R h hq hx
  refine ha H0 G0 G ρ σ H _ _ ε R h (fun v H1 G1 x e1 r1 h1 => ?_) hx
  obtain ⟨c, rfl, k⟩ := asB.of h1
  have r1 : RdD K G1 (.bl c) v := r1
  unfold RdD at r1
  refine ⟨c, r1, ?_⟩
  by_cases hc : c = true
  · rw [if_pos hc] at k ⊢
    exact hq _ H1 G1 (.v (.bl true)) e1 (rd_bl (K := K) (G := G1)) k
  · rw [if_neg hc] at k ⊢
    exact hb H0 G0 G1 ρ σ H1 Q κ ε (R.on e1) k (fun v2 H2 G2 z e2 r2 h2 => hq v2 H2 G2 z (e1.trans e2) (r2.back e1.h) h2) (hx.on e1)
theorem eok_not (ha : EOk K mg W ta a) : EOk K mg W (tNotV ta) (dNot a) := by
  intro H0 G0 G ρ σ H Q κ ε R h hq hx
  refine ha H0 G0 G ρ σ H _ _ ε R h (fun v H1 G1 x e1 r1 h1 => ?_) hx
  obtain ⟨c, rfl, k⟩ := asB.of h1
  have r1 : RdD K G1 (.bl c) v := r1
  unfold RdD at r1
  exact ⟨c, r1, hq _ H1 G1 (.v (.bl (!c))) e1 (rd_bl (K := K) (G := G1)) k⟩
theorem tok_val (ha : EOk K mg W ta a) : TOk K mg W (tB ta) (tVal a) := by
  intro H0 G0 G ρ σ H Q κ ε R h hq hx
  refine ha H0 G0 G ρ σ H _ _ ε R h (fun v H1 G1 x e1 r1 h1 => ?_) hx
  obtain ⟨c, rfl, k⟩ := asB.of h1
  have r1 : RdD K G1 (.bl c) v := r1
  unfold RdD at r1
  exact ⟨c, r1, hq _ H1 G1 e1 k⟩
theorem tok_and (ha : TOk K mg W ua p) (hb : TOk K mg W ub q) : TOk K mg W (tAnd ua ub) (tAndD p q) := by
  intro H0 G0 G ρ σ H Q κ ε R h hq hx
  refine ha H0 G0 G ρ σ H _ _ ε R h (fun c H1 G1 e1 k => ?_) hx
  by_cases hc : c = true
  · rw [if_pos hc] at k ⊢
    exact hb H0 G0 G1 ρ σ H1 Q κ ε (R.on e1) k (fun v2 H2 G2 e2 h2 => hq v2 H2 G2 (e1.trans e2) h2) (hx.on e1)
  · rw [if_neg hc] at k ⊢
    exact hq _ H1 G1 e1 k
theorem tok_or (ha : TOk K mg W ua p) (hb : TOk K mg W ub q) : TOk K mg W (tOr ua ub) (tOrD p q) := by
  intro H0 G0 G ρ σ H Q κ ε R h hq hx
  refine ha H0 G0 G ρ σ H _ _ ε R h (fun c H1 G1 e1 k => ?_) hx
  by_cases hc : c = true
  · rw [if_pos hc] at k ⊢
    exact hq _ H1 G1 e1 k
  · rw [if_neg hc] at k ⊢
    exact hb H0 G0 G1 ρ σ H1 Q κ ε (R.on e1) k (fun v2 H2 G2 e2 h2 => hq v2 H2 G2 (e1.trans e2) h2) (hx.on e1)
theorem tok_not (ha : TOk K mg W ua p) : TOk K mg W (tNot ua) (tNotD p) := by
  intro H0 G0 G ρ σ H Q κ ε R h hq hx
  exact ha H0 G0 G ρ σ H _ _ ε R h (fun c H1 G1 e1 k => hq _ H1 G1 e1 k) hx
end
structure MW (X : Cx) (W : WX) (e : Expr) (δ : DT) : Prop where
  ex : ∃ t, PW X e t ∧ TOk X.K X.mg W t δ
section
variable {X : Cx} {W : WX} {a b : Expr} {da db : DE} {p q : DT} {pos : Pos} {rest : List Expr}
theorem me_one {op : BoolOp} (ha : ME X W a da) : ME X W (.BoolOp op [a] pos) da := by
  obtain ⟨t, pa, oa⟩ := ha
  exact ⟨_, pe_one pa, oa⟩
theorem me_and (ha : ME X W a da) (hb : ME X W (.BoolOp .And (b :: rest) pos) db) : ME X W (.BoolOp .And (a :: b :: rest) pos) (dAnd da db) := by
  obtain ⟨t, pa, oa⟩ := ha
  obtain ⟨u, pb, ob⟩ := hb
  exact ⟨_, pe_and pa pb, eok_and oa ob⟩
theorem me_or (ha : ME X W a da) (hb : ME X W (.BoolOp .Or (b :: rest) pos) db) : ME X W (.BoolOp .Or (a :: b :: rest) pos) (dOr da db) := by
  obtain ⟨t, pa, oa⟩ := ha
  obtain ⟨u, pb, ob⟩ := hb
  exact ⟨_, pe_or pa pb, eok_or oa ob⟩
theorem me_not (ha : ME X W a da) : ME X W (.UnaryOp .Not a pos) (dNot da) := by
  obtain ⟨t, pa, oa⟩ := ha
  exact ⟨_, pe_not pa, eok_not oa⟩
theorem mt_val (ha : ME X W a da) (he : ∀ whole, isTrue a X.env whole = (do let v ← whole; standAt a.pos; holding [v] (truthy v)) := by intro _; rfl) : MT X W a (tVal da) := by
  obtain ⟨t, pa, oa⟩ := ha
  exact ⟨_, pt_val pa he, tok_val oa⟩
theorem mt_cmp {op : CmpOp} {r : R2} {k : Rv → Rv → (Rv → Prop) → (Str → Prop) → Prop} (ho : OpR X (compareOp op) r) (hr : Op2 X.K r k) (ha : ME X W a da) (hb : ME X W b db) (hm : behindInMarks op b = false) : MT X W (.Compare a [op] [b] pos) (tVal (dBin k da db)) := by
  obtain ⟨ta, pa, oa⟩ := ha
  obtain ⟨tb, pb, ob⟩ := hb
  exact ⟨_, pt_cmpR ho pa pb hm, tok_val (eok_bin oa ob hr)⟩
theorem mt_lt (ha : ME X W a da) (hb : ME X W b db) : MT X W (.Compare a [.Lt] [b] pos) (tVal (dLt da db)) := mt_cmp op_lt (op2_I0 rdB) ha hb (nomark _)
theorem mt_le (ha : ME X W a da) (hb : ME X W b db) : MT X W (.Compare a [.LtE] [b] pos) (tVal (dLe da db)) := mt_cmp op_le (op2_I0 rdB) ha hb (nomark _)
theorem mt_gt (ha : ME X W a da) (hb : ME X W b db) : MT X W (.Compare a [.Gt] [b] pos) (tVal (dGt da db)) := mt_cmp op_gt (op2_I0 rdB) ha hb (nomark _)
theorem mt_ge (ha : ME X W a da) (hb : ME X W b db) : MT X W (.Compare a [.GtE] [b] pos) (tVal (dGe da db)) := mt_cmp op_ge (op2_I0 rdB) ha hb (nomark _)
def dEq := dBin kEq
def dNe := dBin kNe
theorem me_eq (hu : X.A.units + 64 < cLine) (ha : ME X W a da) (hb : ME X W b db) : ME X W (.Compare a [.Eq] [b] pos) (dEq da db) := me_cmp (op_eqD hu) op2_eq ha hb (nomark _)
theorem me_ne (hu : X.A.units + 64 < cLine) (ha : ME X W a da) (hb : ME X W b db) : ME X W (.Compare a [.NotEq] [b] pos) (dNe da db) := me_cmp (op_neD hu) op2_ne ha hb (nomark _)
theorem mt_eq (hu : X.A.units + 64 < cLine) (ha : ME X W a da) (hb : ME X W b db) : MT X W (.Compare a [.Eq] [b] pos) (tVal (dEq da db)) := mt_cmp (op_eqD hu) op2_eq ha hb (nomark _)
theorem mt_ne (hu : X.A.units + 64 < cLine) (ha : ME X W a da) (hb : ME X W b db) : MT X W (.Compare a [.NotEq] [b] pos) (tVal (dNe da db)) := mt_cmp (op_neD hu) op2_ne ha hb (nomark _)
theorem mw_and1 (ha : MT X W a p) : MW X W (.BoolOp .And [a] pos) p := by
  obtain ⟨t, pa, oa⟩ := ha
  exact ⟨_, pw_and1 pa, oa⟩
theorem mw_or1 (ha : MT X W a p) : MW X W (.BoolOp .Or [a] pos) p := by
  obtain ⟨t, pa, oa⟩ := ha
  exact ⟨_, pw_or1 pa, oa⟩
theorem mw_and (ha : MT X W a p) (hb : MW X W (.BoolOp .And (b :: rest) pos) q) : MW X W (.BoolOp .And (a :: b :: rest) pos) (tAndD p q) := by
  obtain ⟨t, pa, oa⟩ := ha
  obtain ⟨u, pb, ob⟩ := hb
  exact ⟨_, pw_and pa pb, tok_and oa ob⟩
theorem mw_or (ha : MT X W a p) (hb : MW X W (.BoolOp .Or (b :: rest) pos) q) : MW X W (.BoolOp .Or (a :: b :: rest) pos) (tOrD p q) := by
  obtain ⟨t, pa, oa⟩ := ha
  obtain ⟨u, pb, ob⟩ := hb
  exact ⟨_, pw_or pa pb, tok_or oa ob⟩
theorem MW.mt {e : Expr} (h : MW X W e p) : MT X W e p := by
  obtain ⟨t, pa, oa⟩ := h
  exact ⟨_, pa.pt, oa⟩
theorem mt_not (ha : MT X W a p) : MT X W (.UnaryOp .Not a pos) (tNotD p) := by
  obtain ⟨t, pa, oa⟩ := ha
  exact ⟨_, pt_not pa, tok_not oa⟩
end

/-! ### arguments, displays -/
def aNil : DA := fun _ κ _ => κ []
def aCons (a : DE) (b : DA) : DA := fun ρ κ ε => a ρ (fun x => b ρ (fun xs => κ (x :: xs)) ε) ε
theorem RvsR.back {H0 G H H1 H' : Hp} (s : Same H H1) : ∀ {rs : List Rv} {vs : List V}, RvsR K H0 G H1 H' rs vs → RvsR K H0 G H H' rs vs
  | [], _, h => h
  | r :: rs, vs, h => by
    obtain ⟨v, w, e, a, b⟩ := h
    exact ⟨v, w, e, a.back s, RvsR.back s b⟩
theorem RvsR.on {H0 G H H1 G' H2 : Hp} (x : Ext H1 G H2 G') : ∀ {rs : List Rv} {vs : List V}, RvsR K H0 G H H1 rs vs → RvsR K H0 G' H H2 rs vs
  | [], _, h => h
  | r :: rs, vs, h => by
    obtain ⟨v, w, e, a, b⟩ := h
    exact ⟨v, w, e, a.on x, RvsR.on x b⟩
section
variable {mg : MG} {W : WX} {ta : TE} {a : DE} {t : TA} {b : DA}
theorem aok_nil : AOk K mg W tNil aNil := fun H0 G0 G ρ σ H Q κ ε R h hq hx => hq [] H G [] (Ext.refl R.ext.s) rfl h
theorem aok_cons (ha : EOk K mg W ta a) (hb : AOk K mg W t b) : AOk K mg W (tCons ta t) (aCons a b) := by
  intro H0 G0 G ρ σ H Q κ ε R h hq hx
  refine ha H0 G0 G ρ σ H _ _ ε R h (fun v H1 G1 x e1 r1 h1 => ?_) hx
  refine hb H0 G0 G1 ρ σ H1 _ _ ε (R.on e1) h1 (fun vs H2 G2 xs e2 r2 h2 => ?_) (hx.on e1)
  exact hq (v :: vs) H2 G2 (x :: xs) (e1.trans e2) ⟨v, vs, rfl, r1.on e2, r2.back e1.h⟩ h2
end
section
variable {X : Cx} {W : WX} {e : Expr} {es : List Expr} {da : DE} {db : DA}
theorem ma_nil : MA X W [] aNil := ⟨_, pa_nil, aok_nil⟩
theorem ma_cons (ha : ME X W e da) (hb : MA X W es db) (hs : starEach (e :: es) X.env = (false, eval e X.env) :: starEach es X.env := by rfl) : MA X W (e :: es) (aCons da db) := by
  obtain ⟨t, pa, oa⟩ := ha
  obtain ⟨u, pb, ob⟩ := hb
  exact ⟨_, pa_cons pa pb hs, aok_cons oa ob⟩
end
/-- values that may be kept: data, new lists -/
def frz1 : Rv → Option Dat
  | .v d => some d
  | .n ds => some (.lst ds)
  | _ => none
def frzs : List Rv → Option (List Dat)
  | [] => some []
  | r :: rs => match frz1 r, frzs rs with
    | some d, some ds => some (d :: ds)
    | _, _ => none
/-- the values are put into the part that stays -/
theorem frz1_ok {H0 G G1 H Gs H' : Hp} {r : Rv} {v : V} {d : Dat} (s1 : Same G G1) (x : Ext H Gs H' G1) (h : RvR K H0 G H H' r v) (e : frz1 r = some d) : ∃ G', Ext H Gs H' G' ∧ Same G1 G' ∧ RdD K G' d v := by
  cases r with
  | v d' => injection e with e; subst e; exact ⟨G1, x, Same.refl _, RdD.mono s1 _ _ h⟩
  | n ds =>
    injection e with e; subst e
    obtain ⟨l, vs, a, b, c, n, g⟩ := h
    cases q : G1 l with
    | none =>
      obtain ⟨y, s⟩ := x.put n b q
      refine ⟨_, y, s, ?_⟩
      unfold RdD; exact ⟨l, vs, a, sq_of upd_same, c.mono (s1.trans s)⟩
    | some o =>
      have z := x.s _ _ q
      rw [b] at z
      cases z
      refine ⟨G1, x, Same.refl _, ?_⟩
      unfold RdD; exact ⟨l, vs, a, sq_of q, c.mono s1⟩
  | b ds => exact nomatch e
  | o ds => exact nomatch e
theorem frzs_ok {H0 G H Gs H' : Hp} (x : Ext H Gs H' G) : ∀ {rs : List Rv} {vs : List V} {ds : List Dat}, RvsR K H0 G H H' rs vs → frzs rs = some ds → ∃ G', Ext H Gs H' G' ∧ Same G G' ∧ RdL K G' ds vs
  | [], vs, ds, h, e => by
    injection e with e; subst e
    exact ⟨G, x, Same.refl _, by unfold RdL; exact h⟩
  | r :: rs, vs, ds, h, e => by
    obtain ⟨v, w, rfl, h1, h2⟩ := h
    unfold frzs at e
    split at e
    · rename_i d es e1 e2
      injection e with e; subst e
      obtain ⟨G1, x1, s1, r1⟩ := frzs_ok x h2 e2
      obtain ⟨G2, x2, s2, r2⟩ := frz1_ok s1 x1 h1 e1
      exact ⟨G2, x2, s1.trans s2, RdL.cons r2 (r1.mono s2)⟩
    · exact nomatch e
def dTup (a : DA) : DE := fun ρ κ ε => a ρ (fun rs => match frzs rs with
  | some ds => Nat.ble rs.length 100000 = true ∧ κ (.v (.tup ds))
  | none => False) ε
def dLst (a : DA) : DE := fun ρ κ ε => a ρ (fun rs => match frzs rs with
  | some ds => Nat.ble rs.length 100000 = true ∧ κ (.n ds)
  | none => False) ε
theorem frzs_len : ∀ {rs : List Rv} {ds : List Dat}, frzs rs = some ds → ds.length = rs.length
  | [], ds, e => by injection e with e; subst e; rfl
  | r :: rs, ds, e => by
    unfold frzs at e
    split at e
    · rename_i d es e1 e2
      injection e with e; subst e
      rw [List.length_cons, List.length_cons, frzs_len e2]
    · exact nomatch e
theorem small_of {n : Nat} (h : Nat.ble n 100000 = true) : n ≤ sizeLine := Nat.le_trans (Nat.le_of_ble_eq_true h) (by decide)
theorem eok_tup {mg : MG} {W : WX} {t : TA} {a : DA} (ha : AOk K mg W t a) : EOk K mg W (tTup t) (dTup a) := by
  intro H0 G0 G ρ σ H Q κ ε R h hq hx
  refine ha H0 G0 G ρ σ H _ _ ε R h (fun vs H1 G1 rs e1 r1 h1 => ?_) hx
  split at h1
  · rename_i ds e
    obtain ⟨G2, x2, s2, r2⟩ := frzs_ok e1 r1 e
    refine ⟨by rw [← r2.len, frzs_len e]; exact small_of h1.1, fun p np => ?_⟩
    have y := Ext.newG (o := HO.tup vs) x2.s np
    refine hq _ _ _ (.v (.tup ds)) (x2.trans y) ?_ h1.2
    show RdD K _ _ _
    unfold RdD
    exact ⟨p, vs, rfl, upd_same, r2.mono y.g⟩
  · exact h1.elim
theorem eok_lst {mg : MG} {W : WX} {t : TA} {a : DA} (ha : AOk K mg W t a) : EOk K mg W (tLst t) (dLst a) := by
  intro H0 G0 G ρ σ H Q κ ε R h hq hx
  refine ha H0 G0 G ρ σ H _ _ ε R h (fun vs H1 G1 rs e1 r1 h1 => ?_) hx
  split at h1
  · rename_i ds e
    obtain ⟨G2, x2, s2, r2⟩ := frzs_ok e1 r1 e
    refine ⟨by rw [← r2.len, frzs_len e]; exact small_of h1.1, fun p np => ?_⟩
    have y := Ext.newH (o := HO.lst vs) x2.s np
    exact hq _ _ _ (.n ds) (x2.trans y) ⟨p, vs, rfl, upd_same, r2, x2.h.free np, x2.s.free np⟩ h1.2
  · exact h1.elim
section
variable {X : Cx} {W : WX} {es : List Expr} {da : DA} {pos : Pos}
theorem me_tup {k : Nat} (h : MA X W es da) : ME X W (.Tuple es k pos) (dTup da) := by
  obtain ⟨t, pa, oa⟩ := h
  exact ⟨_, pe_tup pa, eok_tup oa⟩
theorem me_lst (h : MA X W es da) : ME X W (.List es pos) (dLst da) := by
  obtain ⟨t, pa, oa⟩ := h
  exact ⟨_, pe_lst pa, eok_lst oa⟩
end

/-! ### places, slices -/
def kIx : Rv → Rv → (Rv → Prop) → (Str → Prop) → Prop := fun x y κ _ => asQ x fun ds => asI y fun i => onS (atI ds i) fun d => κ (.v d)
def rIxLT (K : PySem.W.Frag) : R2 := fun x y H Q => rIxL K x y H Q ∨ rIxT K x y H Q
theorem RdL.at {G : Hp} {ds : List Dat} {vs : List V} {i : Int} {d : Dat} (h : RdL K G ds vs) (e : atI ds i = some d) : ∃ v, atI vs i = some v ∧ RdD K G d v := by
  unfold atI at e ⊢
  rw [← h.len]
  cases q : ixN ds.length i with
  | none => rw [q] at e; exact nomatch e
  | some j =>
    rw [q] at e
    exact h.get e
theorem op2_ix {K : PySem.W.Frag} : Op2 K (rIxLT K) kIx := by
  intro H0 G Hs H x y v u Q κ ε s s0 sh rx ry h q
  obtain ⟨ds, e, h1⟩ := asQ.of h
  obtain ⟨i, rfl, h2⟩ := asI.of h1
  have ry : RdD K G (.int i) u := ry
  unfold RdD at ry
  obtain ⟨d, q2, h2⟩ := onS.of h2
  · rcases e with e | e
    · obtain ⟨l, vs, rfl, b, c⟩ := rx.lst s s0 e
      obtain ⟨w, e1, e2⟩ := c.at q2
      exact .inl ⟨l, vs, i, w, rfl, ry, b, e1, q w H G (.v d) (Ext.refl s) e2 h2⟩
    · cases x with
      | v d0 =>
        have e : d0 = .tup ds := e
        subst e
        have rx : RdD K G (.tup ds) v := rx
        unfold RdD at rx
        obtain ⟨l, vs, rfl, b, c⟩ := rx
        obtain ⟨w, e1, e2⟩ := c.at q2
        exact .inr ⟨l, vs, i, w, rfl, ry, SqT.of (s _ _ b), e1, q w H G (.v d) (Ext.refl s) e2 h2⟩
      | n _ => exact nomatch e
      | b _ => exact nomatch e
      | o _ => exact nomatch e
section
variable {X : Cx} {W : WX} {a b : Expr} {da db : DE} {pos p2 : Pos}
def dIx := dBin kIx
theorem me_ix (ha : ME X W a da) (hb : ME X W b db) (hs : PlainIx b := by exact fun _ _ => rfl) : ME X W (.Subscript a b pos) (dIx da db) := by
  obtain ⟨ta, pa, oa⟩ := ha
  obtain ⟨tb, pb, ob⟩ := hb
  exact ⟨_, pe_ix (ix_list.or ix_tup) pa pb hs, eok_bin oa ob op2_ix⟩
end
abbrev DO := List Sl → (Option Int → Prop) → (Str → Prop) → Prop
def OOk (K : PySem.W.Frag) (mg : MG) (W : WX) (t : TO) (δ : DO) : Prop := ∀ H0 G0 G ρ σ H (Q : Option Int → Hp → Prop) κ ε, Rel K H0 G0 G ρ σ H → δ ρ κ ε →
  (∀ b H' G', Ext H G H' G' → κ b → Q b H') → XOk mg W H G σ ε → t σ H Q
structure MO (X : Cx) (W : WX) (e : Option Expr) (δ : DO) : Prop where
  ex : ∃ t, PO X e t ∧ OOk X.K X.mg W t δ
def oNone : DO := fun _ κ _ => κ none
def oSome (a : DE) : DO := fun ρ κ ε => a ρ (fun x => asI x fun i => κ (some i)) ε
section
variable {X : Cx} {W : WX} {a : Expr} {lo hi : Option Expr} {da : DE} {dl dh : DO} {pos p2 : Pos}
theorem mo_none : MO X W none oNone := ⟨_, po_none, fun H0 G0 G ρ σ H Q κ ε R h hq hx => hq _ H G (Ext.refl R.ext.s) h⟩
theorem mo_some (ha : ME X W a da) : MO X W (some a) (oSome da) := by
  obtain ⟨ta, pa, oa⟩ := ha
  refine ⟨_, po_some pa, fun H0 G0 G ρ σ H Q κ ε R h hq hx => ?_⟩
  refine oa H0 G0 G ρ σ H _ _ ε R h (fun v H1 G1 x e1 r1 h1 => ?_) hx
  obtain ⟨i, rfl, k⟩ := asI.of h1
  have r1 : RdD X.K G1 (.int i) v := r1
  unfold RdD at r1
  exact ⟨i, r1, hq _ H1 G1 e1 k⟩
def cutD (xs : List Dat) (lo hi : Option Int) : List Dat := (xs.drop (HT.sIx xs.length 0 lo)).take (HT.sIx xs.length xs.length hi - HT.sIx xs.length 0 lo)
theorem RdL.cut {G : Hp} {ds : List Dat} {vs : List V} (lo hi : Option Int) (h : RdL K G ds vs) : RdL K G (cutD ds lo hi) (cutV vs lo hi) := by
  unfold cutD cutV
  rw [← h.len]
  exact (h.drop _).take _
/-- a[lo:hi] of a list -/
def dCut (a : DE) (l h : DO) : DE := fun ρ κ ε => a ρ (fun x => l ρ (fun lo => h ρ (fun hi => match x.dat with
  | .lst ds => κ (.n (cutD ds lo hi))
  | .tup ds => κ (.v (.tup (cutD ds lo hi)))
  | _ => False) ε) ε) ε
theorem cut_whole {α : Type} {xs : List α} {n : Nat} (h : xs.length = n) : (xs.drop 0).take (n - 0) = xs := by
  rw [List.drop_zero, Nat.sub_zero, List.take_of_length_le (by omega)]
theorem Rv.tup_of {x : Rv} {ds : List Dat} (e : x.dat = .tup ds) : x = .v (.tup ds) := by
  cases x with
  | v d => have e : d = .tup ds := e; rw [e]
  | n _ => exact nomatch e
  | b _ => exact nomatch e
  | o _ => exact nomatch e
theorem rvT {H0 G Hs H : Hp} {ds : List Dat} {v : V} (s : Same G H) (h : RvR K H0 G Hs H (.v (.tup ds)) v) : ∃ a vs, v = .ref a ∧ SqT K H a vs ∧ RdL K G ds vs := by
  have h : RdD K G (.tup ds) v := h
  unfold RdD at h
  obtain ⟨a, vs, rfl, g, r⟩ := h
  exact ⟨a, vs, rfl, SqT.of (s _ _ g), r⟩
theorem me_cut (ha : ME X W a da) (hl : MO X W lo dl) (hh : MO X W hi dh) : ME X W (.Subscript a (.Slice lo hi none p2) pos) (dCut da dl dh) := by
  obtain ⟨ta, pa, oa⟩ := ha
  obtain ⟨tl, pl, ol⟩ := hl
  obtain ⟨th, ph, oh⟩ := hh
  refine ⟨_, pe_slice (sl_list.or sl_tupA) pa pl ph, fun H0 G0 G ρ σ H Q κ ε R h hq hx => ?_⟩
  refine oa H0 G0 G ρ σ H _ _ ε R h (fun v H1 G1 x e1 r1 h1 => ?_) hx
  refine ol H0 G0 G1 ρ σ H1 _ _ ε (R.on e1) h1 (fun lo H2 G2 e2 h2 => ?_) (hx.on e1)
  refine oh H0 G0 G2 ρ σ H2 _ _ ε ((R.on e1).on e2) h2 (fun hi H3 G3 e3 h3 => ?_) ((hx.on e1).on e2)
  have e4 := (e1.trans e2).trans e3
  have R4 := R.on e4
  split at h3
  · rename_i ds e
    obtain ⟨l, vs, rfl, b, c⟩ := ((r1.on e2).on e3).lst e4.s R4.ext.h e
    refine .inl ⟨l, vs, rfl, b, fun p np => ?_⟩
    have y := Ext.newH (o := HO.lst (cutV vs lo hi)) e4.s np
    exact hq _ _ _ (.n (cutD ds lo hi)) (e4.trans y) ⟨p, _, rfl, upd_same, c.cut lo hi, e4.h.free np, e4.s.free np⟩ h3
  · rename_i ds e
    obtain rfl := Rv.tup_of e
    have rx0 : RdD X.K G3 (.tup ds) v := RdD.mono (e2.trans e3).g _ _ r1
    obtain ⟨l, vs, rfl, b, c⟩ := rvT e4.s ((r1.on e2).on e3)
    refine .inr ⟨l, vs, rfl, b, fun hw => ?_, fun _ p np => ?_⟩
    · refine hq _ H3 G3 (.v (.tup (cutD ds lo hi))) e4 ?_ h3
      have : cutD ds lo hi = ds := by
        unfold cutD
        rw [c.len, hw.1, hw.2]
        exact cut_whole c.len
      rw [this]
      exact rx0
    · have y := Ext.newG (o := HO.tup (cutV vs lo hi)) e4.s np
      refine hq _ _ _ (.v (.tup (cutD ds lo hi))) (e4.trans y) ?_ h3
      show RdD X.K _ _ _
      unfold RdD
      exact ⟨p, _, rfl, upd_same, (c.cut lo hi).mono y.g⟩
  · exact h3.elim
end

/-! ### xs + ys of lists -/
theorem Inv.lstR {X : Cx} {pins : List (Addr × Obj)} {σ : L2.St} {H : Hp} {s : Shared} {l : Addr} {xs : List V} (I : Inv X pins σ H s) (hH : SqL X.K H l xs) :
    xs.length ≤ sizeLine ∧ ∃ (its : List Value) (n : Nat) (dd : Option Addr) (sl : Array (Option Value)), Vals xs its ∧ xs.length = its.length ∧ s.heap.get? l = some { cls := .type "list", dict := dd, data := .seq its.toArray n, slots := sl } := by
  obtain ⟨its, r, pl, hz⟩ := I.list hH
  obtain ⟨⟨cls, dd, data, sl⟩, ho, hc, n, hd⟩ := pl.isList
  have hc : cls = .type "list" := hc
  have hd : data = .seq its.toArray n := hd
  rw [hc, hd] at ho
  exact ⟨hz, its, n, dd, sl, r, r.length, ho⟩
def rCatR (K : PySem.W.Frag) : R2 := fun x y H Q => ∃ l b xs zs, x = .ref l ∧ y = .ref b ∧ SqL K H l xs ∧ SqL K H b zs ∧ xs.length + zs.length ≤ sizeLine ∧ ∀ p, H p = none → Q (.ref p) (upd H p (.lst (xs ++ zs)))
theorem op_catR {X : Cx} : OpR X (binaryOp .Add) (rCatR X.K) := fun pins s σ H x y v u Q I rx ry h => by
  obtain ⟨l, b, xs, zs, rfl, rfl, hH, hB, hz, q⟩ := h
  have ex : v = Value.ref l := rx
  have ey : u = Value.ref b := ry
  subst ex ey
  obtain ⟨_, its, n, dd, sl, r, hl, e⟩ := Inv.lstR I hH
  obtain ⟨_, jts, m, dd2, sl2, t, ht, f⟩ := Inv.lstR I hB
  have sz : its.toArray.size + jts.toArray.size ≤ sizeLine := by rw [List.size_toArray, List.size_toArray, ← hl, ← ht]; exact hz
  refine concat_meets (S := _) ⟨_, e, rfl⟩ ⟨_, f, rfl⟩ noFill_list_add seq_list_add PySem.F.slot_list_add PySem.F.entry_list_add
    (PySem.F.args_list_add_2 _ _) (list_addW l b its.toArray jts.toArray n m dd dd2 sl sl2 sz) ⟨e, f, ?_⟩
  rw [show its.toArray ++ jts.toArray = (its ++ jts).toArray by simp]
  exact ⟨.ref _, _, I.lnew (t' := s.toks) (r.append t) (by rw [List.length_append]; exact hz), rfl, q _ I.fresh⟩
def kCat : Rv → Rv → (Rv → Prop) → (Str → Prop) → Prop := fun x y κ _ => asL x fun ds => asL y fun es => ds.length + es.length ≤ sizeLine ∧ κ (.n (ds ++ es))
theorem op2_cat : Op2 K (rCatR K) kCat := by
  intro H0 G Hs H x y v u Q κ ε s s0 sh rx ry h q
  obtain ⟨ds, e1, h1⟩ := asL.of h
  obtain ⟨es, e2, h2, h3⟩ := asL.of h1
  obtain ⟨l, vs, rfl, b, c⟩ := rx.lst s s0 e1
  obtain ⟨m, ws, rfl, b2, c2⟩ := ry.lst s s0 e2
  refine ⟨l, m, vs, ws, rfl, rfl, b, b2, by rw [← c.len, ← c2.len]; exact h2, fun p np => ?_⟩
  exact q _ _ _ (.n (ds ++ es)) (Ext.newH s np) ⟨p, _, rfl, upd_same, c.append c2, np, s.free np⟩ h3
section
variable {X : Cx} {W : WX} {a b : Expr} {da db : DE} {pos : Pos}
def dCat := dBin kCat
theorem me_cat (ha : ME X W a da) (hb : ME X W b db) : ME X W (.BinOp a .Add b pos) (dCat da db) := me_bin op_catR op2_cat ha hb
end
end DL
namespace DL
open PySem PySem.Spec PyProof.Rows L2
variable {K : PySem.W.Frag}

/-! ### stores -/
def slOf : Rv → Option Sl
  | .v d => some (.fz d)
  | .n ds => some (.ow ds)
  | .b ds => some (.br ds)
  | .o _ => none
theorem Rel.store {H0 G0 G G' H H' : Hp} {ρ : List Sl} {σ : L2.St} {r : Rv} {v : V} {s : Sl} (R : Rel K H0 G0 G ρ σ H) (x : Ext H G H' G') (h : RvR K H0 G' H H' r v) (e : slOf r = some s) (i : Nat) :
    Rel K H0 G0 G' (ρ.set i s) (σ.set i (some v)) H' := by
  have R' := R.on x
  refine ⟨R'.ext, by rw [List.length_set, List.length_set]; exact R.len, fun j t ht => ?_, fun j k ds es l hj hk lj lk => ?_⟩
  · by_cases hij : i = j
    · subst hij
      by_cases hi : i < ρ.length
      · rw [List.getElem?_set_self hi] at ht
        rw [List.getElem?_set_self (by rw [← R.len]; exact hi)]
        cases ht
        cases r with
        | v d => injection e with e; subst e; exact ⟨v, rfl, h⟩
        | n ds =>
          injection e with e; subst e
          obtain ⟨l, vs, rfl, b, c, n, g⟩ := h
          exact ⟨l, vs, rfl, b, c, g, R.ext.h.free n⟩
        | b ds =>
          injection e with e; subst e
          obtain ⟨l, vs, rfl, b, c⟩ := h
          exact ⟨l, vs, rfl, b, c⟩
        | o ds => exact nomatch e
      · rw [List.getElem?_eq_none (by rw [List.length_set]; omega)] at ht
        exact nomatch ht
    · rw [List.getElem?_set_ne hij] at ht
      rw [List.getElem?_set_ne hij]
      exact R'.sl j t ht
  · have key : ∀ (a b : Nat) (ds es : List Dat), i = a → i ≠ b → (ρ.set i s)[a]? = some (.ow ds) → (ρ.set i s)[b]? = some (.ow es) → (σ.set i (some v))[a]? = some (some (.ref l)) → (σ.set i (some v))[b]? = some (some (.ref l)) → False := by
      intro a b ds es ea nb qa qb la lb
      subst ea
      rw [List.getElem?_set_ne nb] at qb lb
      obtain ⟨l', vs, e1, e2, _⟩ := R.sl b _ qb
      rw [lb] at e1
      cases e1
      have hi : i < ρ.length := by
        by_cases hi : i < ρ.length
        · exact hi
        · rw [List.getElem?_eq_none (by rw [List.length_set]; omega)] at qa; exact nomatch qa
      rw [List.getElem?_set_self hi] at qa
      rw [List.getElem?_set_self (by rw [← R.len]; exact hi)] at la
      cases qa
      cases la
      cases r with
      | v d => exact nomatch e
      | n ds' =>
        obtain ⟨m, ws, em, _, _, n, _⟩ := h
        cases em
        rw [e2] at n
        exact nomatch n
      | b ds' => exact nomatch e
      | o ds' => exact nomatch e
    by_cases hij : i = j
    · by_cases hik : i = k
      · rw [← hij, ← hik]
      · exact (key j k ds es hij hik hj hk lj lk).elim
    · by_cases hik : i = k
      · exact (key k j es ds hik hij hk hj lk lj).elim
      · rw [List.getElem?_set_ne hij] at hj lj
        rw [List.getElem?_set_ne hik] at hk lk
        exact R.inj j k ds es l hj hk lj lk
/-- an own list is rewritten -/
theorem Rel.write {H0 G0 G H : Hp} {ρ : List Sl} {σ : L2.St} {ds es : List Dat} {ws : List V} {l : Addr} {i : Nat} (R : Rel K H0 G0 G ρ σ H) (e : ρ[i]? = some (.ow ds)) (el : σ[i]? = some (some (.ref l))) (hw : RdL K G es ws) :
    Rel K H0 G0 G (ρ.set i (.ow es)) σ (upd H l (.lst ws)) := by
  obtain ⟨l', vs, e1, e2, e3, e4, e5⟩ := R.sl _ _ e
  rw [el] at e1
  cases e1
  have hi : i < ρ.length := by
    by_cases hi : i < ρ.length
    · exact hi
    · rw [List.getElem?_eq_none (by omega)] at e; exact nomatch e
  have same : ∀ {G' : Hp}, Same G' H → G' l = none → Same G' (upd H l (.lst ws)) := fun s n b o h => by
    rw [upd_ne (fun z => by rw [z, n] at h; exact nomatch h)]
    exact s _ _ h
  refine ⟨⟨same R.ext.h e5, R.ext.g, same R.ext.s e4, R.ext.f⟩, by rw [List.length_set]; exact R.len, fun j t ht => ?_, fun j k as bs m hj hk lj lk => ?_⟩
  · by_cases hij : i = j
    · subst hij
      rw [List.getElem?_set_self hi] at ht
      cases ht
      exact ⟨l, ws, el, upd_same, hw, e4, e5⟩
    · rw [List.getElem?_set_ne hij] at ht
      have h := R.sl j t ht
      cases t with
      | un => trivial
      | fz d => exact h
      | ow as =>
        obtain ⟨m, us, f1, f2, f3⟩ := h
        refine ⟨m, us, f1, ?_, f3⟩
        rw [upd_ne (fun z => hij (R.inj i j ds as l e ht el (by rw [f1, z])))]
        exact f2
      | br as => exact h
      | adr a => exact h
      | dc a kvs =>
        obtain ⟨f1, f2, f3, f4⟩ := h
        obtain ⟨es, ea⟩ := f2.at
        refine ⟨f1, f2.mono (Same.refl G) (fun o ho => ?_), f3, f4⟩
        rw [upd_ne (fun z => by rw [z, e2] at ea; exact nomatch ea)]
        exact ho
  · have back : ∀ (a : Nat) (as : List Dat), (ρ.set i (.ow es))[a]? = some (.ow as) → ∃ bs, ρ[a]? = some (.ow bs) := fun a as h => by
      by_cases hia : i = a
      · exact ⟨ds, by rw [← hia]; exact e⟩
      · rw [List.getElem?_set_ne hia] at h; exact ⟨as, h⟩
    obtain ⟨as', ja⟩ := back j as hj
    obtain ⟨bs', kb⟩ := back k bs hk
    exact R.inj j k as' bs' m ja kb lj lk
/-- an own list becomes data that stays -/
def frzSl (ρ : List Sl) (i : Nat) : List Sl := match ρ[i]? with
  | some (.ow ds) => ρ.set i (.fz (.lst ds))
  | _ => ρ
theorem Rel.frz {H0 G0 G H : Hp} {ρ : List Sl} {σ : L2.St} (R : Rel K H0 G0 G ρ σ H) (i : Nat) : ∃ G', Rel K H0 G0 G' (frzSl ρ i) σ H := by
  unfold frzSl
  split
  · rename_i ds e
    obtain ⟨l, vs, e1, e2, e3, e4, e5⟩ := R.sl _ _ e
    obtain ⟨x, s⟩ := R.ext.put e5 e2 e4
    have hi : i < ρ.length := by
      by_cases hi : i < ρ.length
      · exact hi
      · rw [List.getElem?_eq_none (by omega)] at e; exact nomatch e
    refine ⟨_, x, by rw [List.length_set]; exact R.len, fun j t ht => ?_, fun j k as bs m hj hk lj lk => ?_⟩
    · by_cases hij : i = j
      · subst hij
        rw [List.getElem?_set_self hi] at ht
        cases ht
        refine ⟨_, e1, ?_⟩
        unfold RdD
        exact ⟨l, vs, rfl, sq_of upd_same, e3.mono s⟩
      · rw [List.getElem?_set_ne hij] at ht
        have h := R.sl j t ht
        cases t with
        | un => trivial
        | fz d => obtain ⟨v, a, b⟩ := h; exact ⟨v, a, RdD.mono s _ _ b⟩
        | ow as =>
          obtain ⟨m, us, f1, f2, f3, f4, f5⟩ := h
          refine ⟨m, us, f1, f2, f3.mono s, ?_, f5⟩
          rw [upd_ne (fun z => hij (R.inj i j ds as l e ht e1 (by rw [f1, z])))]
          exact f4
        | br as => obtain ⟨m, us, a, b, c⟩ := h; exact ⟨m, us, a, b, c.mono s⟩
        | adr a => exact h
        | dc a kvs =>
          obtain ⟨f1, f2, f3, f4⟩ := h
          obtain ⟨es, ea⟩ := f2.at
          refine ⟨f1, f2.mono s fun o ho => ho, ?_, f4⟩
          rw [upd_ne (fun z => by rw [z, e2] at ea; exact nomatch ea)]
          exact f3
    · have back : ∀ (a : Nat) (as : List Dat), (ρ.set i (.fz (.lst ds)))[a]? = some (.ow as) → ρ[a]? = some (.ow as) := fun a as h => by
        by_cases hia : i = a
        · subst hia; rw [List.getElem?_set_self hi] at h; exact nomatch h
        · rw [List.getElem?_set_ne hia] at h; exact h
      exact R.inj j k as bs m (back _ _ hj) (back _ _ hk) lj lk
  · exact ⟨G, R⟩
/-- forgotten slots -/
theorem Rel.weak {H0 G0 G H : Hp} {ρ ρ' : List Sl} {σ σ' : L2.St} (R : Rel K H0 G0 G ρ σ H) (hl : ρ'.length = ρ.length) (hs : σ'.length = σ.length) (w : ∀ (i : Nat) (s : Sl), ρ'[i]? = some s → s = Sl.un ∨ (ρ[i]? = some s ∧ σ'[i]? = σ[i]?)) : Rel K H0 G0 G ρ' σ' H := by
  refine ⟨R.ext, by rw [hl, hs]; exact R.len, fun i s h => ?_, fun i j ds es l hi hj li lj => ?_⟩
  · rcases w i s h with rfl | ⟨a, b⟩
    · trivial
    · rw [b]; exact R.sl i s a
  · rcases w i _ hi with h | ⟨a, b⟩
    · exact nomatch h
    · rcases w j _ hj with h | ⟨c, d⟩
      · exact nomatch h
      · exact R.inj i j ds es l a c (by rw [← b]; exact li) (by rw [← d]; exact lj)

/-! ### targets -/
abbrev DG := Rv → List Sl → (List Sl → Prop) → Prop
/-- only these slots are touched -/
def Tch (is : List Nat) (σ σ' : L2.St) : Prop := σ'.length = σ.length ∧ ∀ j, j ∉ is → σ'[j]? = σ[j]?
theorem Tch.refl (σ : L2.St) : Tch [] σ σ := ⟨rfl, fun _ _ => rfl⟩
theorem Tch.trans {is js : List Nat} {σ σ1 σ2 : L2.St} (a : Tch is σ σ1) (b : Tch js σ1 σ2) : Tch (is ++ js) σ σ2 :=
  ⟨b.1.trans a.1, fun j h => by rw [b.2 j (fun z => h (List.mem_append_right _ z)), a.2 j (fun z => h (List.mem_append_left _ z))]⟩
theorem Tch.set (σ : L2.St) (i : Nat) (v : Option V) : Tch [i] σ (σ.set i v) := ⟨by rw [List.length_set], fun j h => by rw [List.getElem?_set_ne (fun z => h (by rw [z]; exact List.mem_singleton.mpr rfl))]⟩
def GOk (K : PySem.W.Frag) (t : TG) (is : List Nat) (γ : DG) : Prop := ∀ H0 G0 Gs G ρ σ Hs H r v (Q : L2.St → Hp → Prop) (κ : List Sl → Prop), Rel K H0 G0 Gs ρ σ Hs → Ext Hs Gs H G → RvR K H0 G Hs H r v → γ r ρ κ →
  (∀ ρ' σ', Rel K H0 G0 G ρ' σ' H → Tch is σ σ' → κ ρ' → Q σ' H) → t v σ H Q
def GsOk (K : PySem.W.Frag) (t : TGs) (is : List Nat) (γ : List Dat → List Sl → (List Sl → Prop) → Prop) : Prop := ∀ H0 G0 G ρ σ H ds vs (Q : L2.St → Hp → Prop) (κ : List Sl → Prop), Rel K H0 G0 G ρ σ H → RdL K G ds vs → γ ds ρ κ →
  (∀ ρ' σ', Rel K H0 G0 G ρ' σ' H → Tch is σ σ' → κ ρ' → Q σ' H) → t vs σ H Q
structure MG1 (X : Cx) (e : Expr) (is : List Nat) (γ : DG) : Prop where
  ex : ∃ t, PG X e t ∧ GOk X.K t is γ
structure MGs (X : Cx) (es : List Expr) (is : List Nat) (γ : List Dat → List Sl → (List Sl → Prop) → Prop) : Prop where
  ex : ∃ t, PGs X es t ∧ GsOk X.K t is γ
def gN (i : Nat) : DG := fun r ρ κ => match slOf r with
  | some s => κ (ρ.set i s)
  | none => False
def gsNil : List Dat → List Sl → (List Sl → Prop) → Prop := fun ds ρ κ => match ds with
  | [] => κ ρ
  | _ => False
def gsCons (g : DG) (h : List Dat → List Sl → (List Sl → Prop) → Prop) : List Dat → List Sl → (List Sl → Prop) → Prop := fun ds ρ κ => match ds with
  | d :: es => g (.v d) ρ (fun ρ' => h es ρ' κ)
  | [] => False
def gT (n : Nat) (h : List Dat → List Sl → (List Sl → Prop) → Prop) : DG := fun r ρ κ => asQ r fun ds => ds.length = n ∧ h ds ρ κ
theorem pg_or {X : Cx} {e : Expr} {t u : TG} (h : PG X e t) (h' : PG X e u) : PG X e (fun v σ H Q => t v σ H Q ∨ u v σ H Q) :=
  ⟨fun pins s σ H v w Q I r q => q.elim (fun q => h.run pins s σ H v w Q I r q) fun q => h'.run pins s σ H v w Q I r q⟩
def gL (n : Nat) (h : List Dat → List Sl → (List Sl → Prop) → Prop) : DG := fun r ρ κ => asL r fun ds => ds.length = n ∧ h ds ρ κ
section
variable {X : Cx} {e : Expr} {es : List Expr} {g : DG} {h : List Dat → List Sl → (List Sl → Prop) → Prop} {pos : Pos}
theorem mg_name (i : Nat) {x : Str} (hN : X.N.Nodup) (hi : X.N[i]? = some x := by rfl) (hx : Loc X.env.scope x := by first | exact Or.inl rfl | exact Or.inr rfl) (hf : X.fn x = true ∨ X.env.scope.names.lookup x = some .local := by first | exact .inl rfl | exact .inr rfl | assumption) : MG1 X (.Name x pos) [i] (gN i) := by
  refine ⟨_, pg_name hN hi hx hf, fun H0 G0 Gs G ρ σ Hs H r v Q κ R x hr hg hq => ?_⟩
  unfold gN at hg
  split at hg
  · rename_i s e
    exact hq _ _ (R.store x hr e i) (Tch.set _ _ _) hg
  · exact hg.elim
theorem mgs_nil : MGs X [] [] gsNil := by
  refine ⟨_, pgs_nil, fun H0 G0 G ρ σ H ds vs Q κ R hr hg hq => ?_⟩
  cases ds with
  | nil => unfold RdL at hr; exact ⟨hr, hq _ _ R (Tch.refl _) hg⟩
  | cons d ds => exact hg.elim
theorem mgs_cons {is js : List Nat} (h1 : MG1 X e is g) (h2 : MGs X es js h) (hs : (assignEach (e :: es) X.env).map (·.2) = assign e X.env :: (assignEach es X.env).map (·.2) := by rfl) : MGs X (e :: es) (is ++ js) (gsCons g h) := by
  obtain ⟨t, pg, og⟩ := h1
  obtain ⟨u, pu, ou⟩ := h2
  refine ⟨_, pgs_cons pg pu hs, fun H0 G0 G ρ σ H ds vs Q κ R hr hg hq => ?_⟩
  cases ds with
  | nil => exact hg.elim
  | cons d ds =>
    unfold RdL at hr
    obtain ⟨v, r, rfl, h1, h2⟩ := hr
    refine ⟨v, r, rfl, ?_⟩
    exact og H0 G0 G G ρ σ H H (.v d) v _ _ R (Ext.refl R.ext.s) h1 hg fun ρ' σ' R' t' h' => ou H0 G0 G ρ' σ' H ds r Q κ R' h2 h' fun ρ2 σ2 R2 t2 h3 => hq ρ2 σ2 R2 (t'.trans t2) h3
theorem mg_tup {k n : Nat} {is : List Nat} (hc : X.calm = true) (hh : MGs X es is h) (hn : (assignEach es X.env).length = n := by rfl) (hst : (assignEach es X.env).findIdx? (·.1) = none := by rfl) : MG1 X (.Tuple es k pos) is (gT n h) := by
  obtain ⟨t, pg, og⟩ := hh
  refine ⟨_, pg_or (pg_tup hc pg hn hst) (pg_lst hc pg hn hst), fun H0 G0 Gs G ρ σ Hs H r v Q κ R x hr hg hq => ?_⟩
  obtain ⟨ds, e, h1, h2⟩ := asQ.of hg
  rcases e with e | e
  · obtain ⟨l, vs, rfl, b, c⟩ := hr.lst x.s (R.on x).ext.h e
    exact .inr ⟨l, vs, rfl, b, by rw [← c.len]; exact h1, og H0 G0 G ρ σ H ds vs Q κ (R.on x) c h2 hq⟩
  · obtain rfl := Rv.tup_of e
    obtain ⟨a, vs, rfl, b, c⟩ := rvT x.s hr
    exact .inl ⟨a, vs, rfl, b, by rw [← c.len]; exact h1, og H0 G0 G ρ σ H ds vs Q κ (R.on x) c h2 hq⟩
theorem mg_lst {k n : Nat} {is : List Nat} (hc : X.calm = true) (hh : MGs X es is h) (hn : (assignEach es X.env).length = n := by rfl) (hst : (assignEach es X.env).findIdx? (·.1) = none := by rfl) : MG1 X (.Tuple es k pos) is (gL n h) := by
  obtain ⟨t, pg, og⟩ := hh
  refine ⟨_, pg_lst hc pg hn hst, fun H0 G0 Gs G ρ σ Hs H r v Q κ R x hr hg hq => ?_⟩
  obtain ⟨ds, e, h1, h2⟩ := asL.of hg
  obtain ⟨l, vs, rfl, b, c⟩ := hr.lst x.s (R.on x).ext.h e
  exact ⟨l, vs, rfl, b, by rw [← c.len]; exact h1, og H0 G0 G ρ σ H ds vs Q κ (R.on x) c h2 hq⟩
end

/-! ### small statements -/
def sNil : DS := fun κ ρ => κ.nx ρ
def sSeq (a b : DS) : DS := fun κ ρ => a { κ with nx := b κ } ρ
def sDrop (a : DE) : DS := fun κ ρ => a ρ (fun _ => κ.nx ρ) (fun nm => κ.ex nm ρ)
def sAsg (a : DE) (g : DG) : DS := fun κ ρ => a ρ (fun r => g r ρ κ.nx) (fun nm => κ.ex nm ρ)
def sRet (a : DE) : DS := fun κ ρ => a ρ (fun r => retOk r = true ∧ κ.rt r) (fun nm => κ.ex nm ρ)
/-- return x -/
def sRetV (i : Nat) : DS := fun κ ρ => match ρ[i]? with
  | some (.fz d) => κ.rt (.v d)
  | some (.ow ds) => κ.rt (.n ds)
  | _ => False
def sRetN : DS := fun κ _ => κ.rt (.v .non)
def sIf (c : DT) (a b : DS) : DS := fun κ ρ => c ρ (fun k => if k = true then a κ ρ else b κ ρ) (fun nm => κ.ex nm ρ)
def sBrk : DS := fun κ ρ => κ.bk ρ
def sCnt : DS := fun κ ρ => κ.ct ρ
/-- first x becomes data that stays -/
def sFrz (i : Nat) (a : DS) : DS := fun κ ρ => a κ (frzSl ρ i)
/-- x op= e -/
def sAug (i : Nat) (a : DE) (k : Rv → Rv → (Rv → Prop) → (Str → Prop) → Prop) : DS := fun κ ρ => dVar i ρ (fun x => a ρ (fun y => k x y (fun z => gN i z ρ κ.nx) (fun nm => κ.ex nm ρ)) (fun nm => κ.ex nm ρ)) (fun nm => κ.ex nm ρ)
theorem Ext.trans' {H0 G0 G H H' G' : Hp} (a : Ext H0 G0 H G) (b : Ext H0 G H' G') : Ext H0 G0 H' G' := ⟨b.h, a.g.trans b.g, b.s, fun x hx hg => b.f x hx (a.f x hx hg)⟩
theorem Rel.sub {H0 G0 G H G' H' : Hp} {ρ ρ' : List Sl} {σ σ' : L2.St} (R : Rel K H0 G0 G ρ σ H) (R' : Rel K H0 G G' ρ' σ' H') : Rel K H0 G0 G' ρ' σ' H' := ⟨R.ext.trans' R'.ext, R'.len, R'.sl, R'.inj⟩
theorem Rel.here {H0 G0 G H : Hp} {ρ : List Sl} {σ : L2.St} (R : Rel K H0 G0 G ρ σ H) : Rel K H0 G G ρ σ H := ⟨⟨R.ext.h, Same.refl _, R.ext.s, fun _ _ h => h⟩, R.len, R.sl, R.inj⟩
theorem EndsOk.sub {mg : MG} {W : WX} {H0 G0 G H : Hp} {ρ : List Sl} {σ : L2.St} {D : Ends} {κ : DEnds} (E : EndsOk K mg W H0 G0 D κ) (R : Rel K H0 G0 G ρ σ H) : EndsOk K mg W H0 G D κ :=
  ⟨fun ρ' σ' H' G' R' k => E.nx ρ' σ' H' G' (R.sub R') k, fun ρ' σ' H' G' R' k => E.bk ρ' σ' H' G' (R.sub R') k,
   fun ρ' σ' H' G' R' k => E.ct ρ' σ' H' G' (R.sub R') k, fun v H' G' r x h o k => E.rt v H' G' r (R.ext.trans' x) h o k,
   fun nm cls ρ' σ' H' G' R' h k => E.ex nm cls ρ' σ' H' G' (R.sub R') h k⟩
/-- Ext from a state to a later one of the same entry -/
theorem Rel.ret {H0 G0 G H H' G' : Hp} {ρ : List Sl} {σ : L2.St} (R : Rel K H0 G0 G ρ σ H) (x : Ext H G H' G') : Ext H0 G0 H' G' := R.ext.trans x
theorem RvR.ret {H0 G' H H' : Hp} {r : Rv} {v : V} (s : Same H0 H) (h : RvR K H0 G' H H' r v) : RvR K H0 G' H0 H' r v := h.back s
theorem dVar_ok {H0 G0 G H : Hp} {ρ : List Sl} {σ : L2.St} {i : Nat} {κ : Rv → Prop} {ε : Str → Prop} (R : Rel K H0 G0 G ρ σ H) (h : dVar i ρ κ ε) : ∃ v r, σ[i]? = some (some v) ∧ RvR K H0 G H H r v ∧ κ r := by
  unfold dVar at h
  split at h
  · rename_i d e
    obtain ⟨v, e1, e2⟩ := R.sl _ _ e
    exact ⟨v, .v d, e1, e2, h⟩
  · rename_i d e
    obtain ⟨l, vs, e1, e2, e3, e4, e5⟩ := R.sl _ _ e
    exact ⟨.ref l, .o d, e1, ⟨l, vs, rfl, e2, e3⟩, h⟩
  · rename_i d e
    obtain ⟨l, vs, e1, e2, e3⟩ := R.sl _ _ e
    exact ⟨.ref l, .b d, e1, ⟨l, vs, rfl, e2, e3⟩, h⟩
  · exact h.elim
section
variable {X : Cx} {W : WX} {st : Stmt} {rest : List Stmt} {e tg : Expr} {a b : DS} {d : DE} {g : DG} {p : DT} {pos : Pos}
theorem mss_nil : MSs X W [] sNil := ⟨_, pss_nil, fun H0 G0 G ρ σ H D κ R h E => E.nx ρ σ H G R h⟩
theorem mss_cons (h1 : MS X W st a) (h2 : MSs X W rest b) : MSs X W (st :: rest) (sSeq a b) := by
  obtain ⟨t, pa, oa⟩ := h1
  obtain ⟨u, pb, ob⟩ := h2
  refine ⟨_, pss_cons pa pb, fun H0 G0 G ρ σ H D κ R h E => ?_⟩
  exact oa H0 G0 G ρ σ H _ _ R h ⟨fun ρ' σ' H' G' R' k => ob H0 G0 G' ρ' σ' H' D κ R' k E, E.bk, E.ct, E.rt, E.ex⟩
theorem mss_one (h1 : MS X W st a) : MSs X W [st] a := by
  obtain ⟨t, pa, oa⟩ := h1
  exact ⟨_, pss_one pa, oa⟩
theorem ms_drop (h : ME X W e d) (hs : swapsWith e none pos.line X.env = pure false := by rfl) : MS X W (.Expr e pos) (sDrop d) := by
  obtain ⟨t, pa, oa⟩ := h
  refine ⟨_, ps_expr pa hs, fun H0 G0 G ρ σ H D κ R h E => ?_⟩
  exact oa H0 G0 G ρ σ H _ _ _ R h (fun v H' G' r x hr k => E.nx ρ σ H' G' (R.on x) k) (E.xok R)
theorem ms_asg {is : List Nat} (h : ME X W e d) (hg : MG1 X tg is g) (hs : swapsWithSole [tg] e pos.line X.env = pure false := by rfl) (hw : swappedStores [tg] e X.env = pure none := by rfl) (h1 : (assignEach [tg] X.env).map (·.2) = [assign tg X.env] := by rfl) : MS X W (.Assign [tg] e pos) (sAsg d g) := by
  obtain ⟨t, pa, oa⟩ := h
  obtain ⟨u, pg, og⟩ := hg
  refine ⟨_, ps_asg pa pg hs hw h1, fun H0 G0 G ρ σ H D κ R h E => ?_⟩
  exact oa H0 G0 G ρ σ H _ _ _ R h (fun v H' G' r x hr k => og H0 G0 G G' ρ σ H H' r v _ _ R x hr k fun ρ' σ' R' _ k' => E.nx ρ' σ' H' G' R' k') (E.xok R)
theorem ms_set (i : Nat) {x : Str} {pos' : Pos} (hN : X.N.Nodup) (h : ME X W e d) (hi : X.N[i]? = some x := by rfl) (hx : Loc X.env.scope x := by first | exact Or.inl rfl | exact Or.inr rfl)
    (hs : swapsWith e (some (.Name x pos')) pos.line X.env = pure false := by rfl) (hf : X.fn x = true ∨ X.env.scope.names.lookup x = some .local := by first | exact .inl rfl | exact .inr rfl | assumption) : MS X W (.Assign [.Name x pos'] e pos) (sAsg d (gN i)) := by
  obtain ⟨t, pa, oa⟩ := h
  obtain ⟨u, pg, og⟩ := mg_name (pos := pos') i hN hi hx hf
  refine ⟨_, ps_set hN hi hx pa hs hf, fun H0 G0 G ρ σ H D κ R h E => ?_⟩
  refine oa H0 G0 G ρ σ H _ _ _ R h (fun v H' G' r x hr k => ?_) (E.xok R)
  unfold gN at k
  split at k
  · rename_i s e
    exact E.nx _ _ _ _ (R.store x hr e i) k
  · exact k.elim
theorem ms_ret (h : ME X W e d) : MS X W (.Return (some e) pos) (sRet d) := by
  obtain ⟨t, pa, oa⟩ := h
  refine ⟨_, ps_ret pa, fun H0 G0 G ρ σ H D κ R h E => ?_⟩
  exact oa H0 G0 G ρ σ H _ _ _ R h (fun v H' G' r x hr k => E.rt v H' G' r (R.ret x) (RvR.ret (G' := G') R.ext.h hr) k.1 k.2) (E.xok R)
theorem ms_retV (i : Nat) {x : Str} {p2 : Pos} (hN : X.N[i]? = some x := by rfl) (hv : Vis X.env.scope x := by first | exact Or.inl rfl | exact Or.inr (Or.inl rfl) | exact Or.inr (Or.inr rfl)) (hd : (x == ("__debug__" : Str)) = false := by decide)
    (hcd : (x == ("__classdict__" : Str)) = false := by decide) : MS X W (.Return (some (.Name x p2)) pos) (sRetV i) := by
  refine ⟨_, ps_ret (pe_var hN hv hd hcd), fun H0 G0 G ρ σ H D κ R h E => ?_⟩
  unfold sRetV at h
  split at h
  · rename_i d e
    obtain ⟨v, e1, e2⟩ := R.sl _ _ e
    exact ⟨v, e1, E.rt v H G (.v d) R.ext e2 rfl h⟩
  · rename_i d e
    obtain ⟨l, vs, e1, e2, e3, e4, e5⟩ := R.sl _ _ e
    exact ⟨.ref l, e1, E.rt _ H G (.n d) R.ext ⟨l, vs, rfl, e2, e3, e5, e4⟩ rfl h⟩
  · exact h.elim
theorem ms_retN : MS X W (.Return none pos) sRetN := ⟨_, ps_retN, fun H0 G0 G ρ σ H D κ R h E => E.rt _ H G (.v .non) R.ext (by show RdD X.K _ _ _; unfold RdD; rfl) rfl h⟩
theorem ms_if {c : Expr} {xs ys : List Stmt} (hc : MT X W c p) (ha : MSs X W xs a) (hb : MSs X W ys b) : MS X W (.If c xs ys pos) (sIf p a b) := by
  obtain ⟨t, pc, oc⟩ := hc
  obtain ⟨u, pa, oa⟩ := ha
  obtain ⟨w, pb, ob⟩ := hb
  refine ⟨_, ps_if pc pa pb, fun H0 G0 G ρ σ H D κ R h E => ?_⟩
  refine oc H0 G0 G ρ σ H _ _ _ R h (fun k H' G' x hk => ?_) (E.xok R)
  have R' := R.on x
  by_cases hkk : k = true
  · rw [if_pos hkk] at hk ⊢
    exact oa H0 G0 G' ρ σ H' D κ R' hk E
  · rw [if_neg hkk] at hk ⊢
    exact ob H0 G0 G' ρ σ H' D κ R' hk E
theorem ms_pass : MS X W (.Pass pos) sNil := ⟨_, ps_pass, fun H0 G0 G ρ σ H D κ R h E => E.nx ρ σ H G R h⟩
theorem ms_break : MS X W (.Break pos) sBrk := ⟨_, ps_break, fun H0 G0 G ρ σ H D κ R h E => E.bk ρ σ H G R h⟩
theorem ms_continue : MS X W (.Continue pos) sCnt := ⟨_, ps_continue, fun H0 G0 G ρ σ H D κ R h E => E.ct ρ σ H G R h⟩
theorem ms_frz (i : Nat) (h : MS X W st a) : MS X W st (sFrz i a) := by
  obtain ⟨t, pa, oa⟩ := h
  refine ⟨t, pa, fun H0 G0 G ρ σ H D κ R h E => ?_⟩
  obtain ⟨G', R'⟩ := R.frz i
  exact oa H0 G0 G' _ σ H D κ R' h E
theorem mss_frz {sts : List Stmt} (i : Nat) (h : MSs X W sts a) : MSs X W sts (sFrz i a) := by
  obtain ⟨t, pa, oa⟩ := h
  refine ⟨t, pa, fun H0 G0 G ρ σ H D κ R h E => ?_⟩
  obtain ⟨G', R'⟩ := R.frz i
  exact oa H0 G0 G' _ σ H D κ R' h E
theorem ms_aug (i : Nat) {x : Str} {op : Operator} {r : R2} {k : Rv → Rv → (Rv → Prop) → (Str → Prop) → Prop} {pos' : Pos} (ho : OpR X (inplaceOp op) r) (hr : Op2 X.K r k) (hN : X.N.Nodup) (h : ME X W e d) (hi : X.N[i]? = some x := by rfl) (hx : Loc X.env.scope x := by first | exact Or.inl rfl | exact Or.inr rfl)
    (hf : X.fn x = true ∨ X.env.scope.names.lookup x = some .local := by first | exact .inl rfl | exact .inr rfl | assumption) : MS X W (.AugAssign (.Name x pos') op e pos) (sAug i d k) := by
  obtain ⟨t, pa, oa⟩ := h
  have hip : PIp X op r := fun pins s σ H x y v u Q I rx ry q => ho pins s σ H x y v u Q I rx ry q
  refine ⟨_, ps_aug hN hi hx pa hip hf, fun H0 G0 G ρ σ H D κ R h E => ?_⟩
  obtain ⟨v, r1, e1, h1, k1⟩ := dVar_ok R h
  refine ⟨v, e1, ?_⟩
  refine oa H0 G0 G ρ σ H _ _ _ R k1 (fun u H1 G1 y x1 h2 k2 => ?_) (E.xok R)
  have R1 := R.on x1
  refine hr H0 G1 H H1 r1 y v u _ _ _ x1.s R1.ext.h x1.h (h1.on x1) h2 k2 (fun w H2 G2 z x2 h3 k3 => ?_)
  unfold gN at k3
  split at k3
  · rename_i s e
    exact E.nx _ _ _ _ (R1.store x2 h3 e i) k3
  · exact k3.elim
theorem ms_augI (i : Nat) {x : Str} {pos' : Pos} (hN : X.N.Nodup) (h : ME X W e d) (hi : X.N[i]? = some x := by rfl) (hx : Loc X.env.scope x := by first | exact Or.inl rfl | exact Or.inr rfl)
    (hf : X.fn x = true ∨ X.env.scope.names.lookup x = some .local := by first | exact .inl rfl | exact .inr rfl | assumption) : MS X W (.AugAssign (.Name x pos') .Add e pos) (sAug i d (kI0 fun i j => .int (i + j))) :=
  ms_aug i iop_add (op2_I0 rdI) hN h hi hx hf
end
end DL
namespace DL
open PySem PySem.Spec PyProof.Rows L2
variable {K : PySem.W.Frag}

/-- what a body stands in -/
structure Cn (X : Cx) (W : WX) (k : Nat) : Prop where
  tk : Takes X W
  hp : PassesOwn (model X.prog X.w) X.A X.env X.xe
  hc : X.calm = true
  hr : Room k X.A
  nd : X.N.Nodup

/-! ### own lists: append, pop, x[i] = e -/
theorem ow_at {H0 G0 G H : Hp} {ρ : List Sl} {σ : L2.St} {i : Nat} {ds : List Dat} (R : Rel K H0 G0 G ρ σ H) (e : ρ[i]? = some (.ow ds)) : ∃ l vs, σ[i]? = some (some (.ref l)) ∧ H l = some (.lst vs) ∧ RdL K G ds vs := by
  obtain ⟨l, vs, a, b, c, _⟩ := R.sl _ _ e
  exact ⟨l, vs, a, b, c⟩
def sApp (i : Nat) (a : DE) : DS := fun κ ρ => match ρ[i]? with
  | some (.ow ds) => a ρ (fun r => match frz1 r with
    | some d => ds.length < sizeLine ∧ κ.nx (ρ.set i (.ow (ds ++ [d])))
    | none => False) (fun nm => κ.ex nm ρ)
  | _ => False
def sPop (i : Nat) (g : DG) : DS := fun κ ρ => match ρ[i]? with
  | some (.ow ds) => onS ds[ds.length - 1]? fun d => g (.v d) (ρ.set i (.ow ds.dropLast)) κ.nx
  | _ => False
def gDrop : DG := fun _ ρ κ => κ ρ
def sSetI (i : Nat) (a ix : DE) : DS := fun κ ρ => match ρ[i]? with
  | some (.ow ds) => a ρ (fun r => ix ρ (fun k => asI k fun k => match frz1 r with
    | some d => onS (ixN ds.length k) fun j => κ.nx (ρ.set i (.ow (ds.set j d)))
    | none => False) (fun nm => κ.ex nm ρ)) (fun nm => κ.ex nm ρ)
  | _ => False
section
variable {X : Cx} {W : WX} {e ix tg : Expr} {d dix : DE} {g : DG} {pos : Pos} {x : Str}
theorem ms_app (i : Nat) {p2 p3 p4 : Pos} (h : ME X W e d) (hN : X.N[i]? = some x := by rfl) (hv : Vis X.env.scope x := by first | exact Or.inl rfl | exact Or.inr (Or.inl rfl) | exact Or.inr (Or.inr rfl)) (hd : (x == ("__debug__" : Str)) = false := by decide)
    (hcd : (x == ("__classdict__" : Str)) = false := by decide) (hbase : attributeBase (.Name x p2) "append" X.env (eval (.Name x p2) X.env) = eval (.Name x p2) X.env := by rfl)
    (hs : swapsWith (.Call (.Attribute (.Name x p2) "append" p3) [e] [] p4) none pos.line X.env = pure false := by rfl) (hst : starEach (e :: []) X.env = (false, eval e X.env) :: starEach [] X.env := by rfl) (hline : (p3.endLine == p4.line) = true := by rfl)
    (hfew : ((backTo p4 (starEach (e :: []) X.env)).all (!·.1) && (backToKw p4 (keywordEach [] X.env)).all (·.1.isSome) && decide ((e :: []).length + ([] : List Keyword).length + (if ([] : List Keyword).isEmpty then 0 else 1) < 30)) = true := by rfl) :
    MS X W (.Expr (.Call (.Attribute (.Name x p2) "append" p3) [e] [] p4) pos) (sApp i d) := by
  obtain ⟨t, pa, oa⟩ := h
  refine ⟨_, ps_expr (pe_bm PySem.F.plainAttrs_list PySem.F.slot_list_append PySem.F.type_list_append mt_append (pe_var hN hv hd hcd) (pa_cons pa pa_nil hst) hbase (hfew := hfew) (hline := hline) (hs := hst)) hs, fun H0 G0 G ρ σ H D κ R h E => ?_⟩
  unfold sApp at h
  split at h
  · rename_i ds eo
    obtain ⟨l, vs, e1, e2, e3⟩ := ow_at R eo
    refine ⟨.ref l, e1, .inl ⟨rfl, _, SqL.of e2⟩, ?_⟩
    refine oa H0 G0 G ρ σ H _ _ _ R h (fun v H1 G1 r x1 hr k => ?_) (E.xok R)
    split at k
    · rename_i d ed
      obtain ⟨G2, x2, s2, r2⟩ := frz1_ok (Same.refl G1) x1 hr ed
      have R2 := R.on x2
      refine ⟨l, vs, v, rfl, rfl, x1.h _ _ e2, by rw [← e3.len]; exact k.1, ?_⟩
      exact E.nx _ _ _ _ (R2.write eo e1 ((e3.mono x2.g).append (RdL.cons r2 RdL.nil))) k.2
    · exact k.elim
  · exact h.elim
theorem ms_pop (i : Nat) {is : List Nat} {p2 p3 p4 : Pos} (hg : MG1 X tg is g) (hN : X.N[i]? = some x := by rfl) (hv : Vis X.env.scope x := by first | exact Or.inl rfl | exact Or.inr (Or.inl rfl) | exact Or.inr (Or.inr rfl)) (hd : (x == ("__debug__" : Str)) = false := by decide)
    (hcd : (x == ("__classdict__" : Str)) = false := by decide) (hbase : attributeBase (.Name x p2) "pop" X.env (eval (.Name x p2) X.env) = eval (.Name x p2) X.env := by rfl) (hline : (p3.endLine == p4.line) = true := by rfl)
    (hs : swapsWithSole [tg] (.Call (.Attribute (.Name x p2) "pop" p3) [] [] p4) pos.line X.env = pure false := by rfl) (hw : swappedStores [tg] (.Call (.Attribute (.Name x p2) "pop" p3) [] [] p4) X.env = pure none := by rfl) (h1 : (assignEach [tg] X.env).map (·.2) = [assign tg X.env] := by rfl) :
    MS X W (.Assign [tg] (.Call (.Attribute (.Name x p2) "pop" p3) [] [] p4) pos) (sPop i g) := by
  obtain ⟨u, pg, og⟩ := hg
  refine ⟨_, ps_asg (pe_bm0 PySem.F.plainAttrs_list PySem.F.slot_list_pop PySem.F.type_list_pop mt_pop (pe_var hN hv hd hcd) hbase hline) pg hs hw h1, fun H0 G0 G ρ σ H D κ R h E => ?_⟩
  unfold sPop at h
  split at h
  · rename_i ds eo
    obtain ⟨l, vs, e1, e2, e3⟩ := ow_at R eo
    obtain ⟨d, ed, h⟩ := onS.of h
    · obtain ⟨v, ev, rv⟩ := e3.get ed
      refine ⟨.ref l, e1, .inl ⟨rfl, _, SqL.of e2⟩, l, vs, v, rfl, rfl, e2, by rw [← e3.len]; exact ev, ?_⟩
      have R2 := R.write eo e1 e3.dropLast
      exact og H0 G0 G G _ σ _ _ (.v d) v _ _ R2 (Ext.refl R2.ext.s) rv h fun ρ' σ' R' _ k => E.nx ρ' σ' _ G R' k
  · exact h.elim
theorem ms_popD (i : Nat) {p2 p3 p4 : Pos} (hN : X.N[i]? = some x := by rfl) (hv : Vis X.env.scope x := by first | exact Or.inl rfl | exact Or.inr (Or.inl rfl) | exact Or.inr (Or.inr rfl)) (hd : (x == ("__debug__" : Str)) = false := by decide)
    (hcd : (x == ("__classdict__" : Str)) = false := by decide) (hbase : attributeBase (.Name x p2) "pop" X.env (eval (.Name x p2) X.env) = eval (.Name x p2) X.env := by rfl) (hline : (p3.endLine == p4.line) = true := by rfl)
    (hs : swapsWith (.Call (.Attribute (.Name x p2) "pop" p3) [] [] p4) none pos.line X.env = pure false := by rfl) :
    MS X W (.Expr (.Call (.Attribute (.Name x p2) "pop" p3) [] [] p4) pos) (sPop i gDrop) := by
  refine ⟨_, ps_expr (pe_bm0 PySem.F.plainAttrs_list PySem.F.slot_list_pop PySem.F.type_list_pop mt_pop (pe_var hN hv hd hcd) hbase hline) hs, fun H0 G0 G ρ σ H D κ R h E => ?_⟩
  unfold sPop at h
  split at h
  · rename_i ds eo
    obtain ⟨l, vs, e1, e2, e3⟩ := ow_at R eo
    obtain ⟨d, ed, h⟩ := onS.of h
    · obtain ⟨v, ev, rv⟩ := e3.get ed
      refine ⟨.ref l, e1, .inl ⟨rfl, _, SqL.of e2⟩, l, vs, v, rfl, rfl, e2, by rw [← e3.len]; exact ev, ?_⟩
      exact E.nx _ σ _ G (R.write eo e1 e3.dropLast) h
  · exact h.elim
theorem ms_setI (i : Nat) {p2 p3 : Pos} (h : ME X W e d) (hix : ME X W ix dix) (hN : X.N[i]? = some x := by rfl) (hv : Vis X.env.scope x := by first | exact Or.inl rfl | exact Or.inr (Or.inl rfl) | exact Or.inr (Or.inr rfl)) (hd : (x == ("__debug__" : Str)) = false := by decide)
    (hcd : (x == ("__classdict__" : Str)) = false := by decide)
    (ha : ∀ v, assign (.Subscript (.Name x p2) ix p3) X.env v = (do
      let ov ← holding [v] (eval (.Name x p2) X.env)
      let iv ← holding [v, ov] (eval ix X.env)
      standAt p3
      holding [v, ov, iv] (setItem ov iv v)
      release [v, ov, iv] []) := by intro _; rfl)
    (hs : swapsWithSole [.Subscript (.Name x p2) ix p3] e pos.line X.env = pure false := by rfl) (hw : swappedStores [.Subscript (.Name x p2) ix p3] e X.env = pure none := by rfl) (h1 : (assignEach [.Subscript (.Name x p2) ix p3] X.env).map (·.2) = [assign (.Subscript (.Name x p2) ix p3) X.env] := by rfl) :
    MS X W (.Assign [.Subscript (.Name x p2) ix p3] e pos) (sSetI i d dix) := by
  obtain ⟨t, pa, oa⟩ := h
  obtain ⟨u, pi, oi⟩ := hix
  refine ⟨_, ps_asg pa (pg_sub (pe_var hN hv hd hcd) pi set_list ha) hs hw h1, fun H0 G0 G ρ σ H D κ R h E => ?_⟩
  unfold sSetI at h
  split at h
  · rename_i ds eo
    obtain ⟨l, vs, e1, e2, e3⟩ := ow_at R eo
    refine oa H0 G0 G ρ σ H _ _ _ R h (fun v H1 G1 r x1 hr k => ?_) (E.xok R)
    refine ⟨.ref l, e1, ?_⟩
    have R1 := R.on x1
    refine oi H0 G0 G1 ρ σ H1 _ _ _ R1 k (fun w H2 G2 z x2 hz k2 => ?_) (E.xok R1)
    obtain ⟨j, rfl, k3⟩ := asI.of k2
    have hz : RdD X.K G2 (.int j) w := hz
    unfold RdD at hz
    have x12 := x1.trans x2
    split at k3
    · rename_i d ed
      obtain ⟨jj, ej, k3⟩ := onS.of k3
      · obtain ⟨G3, x3, s3, r3⟩ := frz1_ok (Same.refl G2) x12 (hr.on x2) ed
        have R3 := R.on x3
        refine ⟨l, vs, j, jj, rfl, hz, x12.h _ _ e2, by rw [← e3.len]; exact ej, ?_⟩
        exact E.nx _ _ _ _ (R3.write eo e1 ((e3.mono x3.g).set jj r3)) k3
    · exact k3.elim
  · exact h.elim
end

/-! ### a, b = x, y -/
def sPar (i j : Nat) (a : DA) : DS := fun κ ρ => a ρ (fun rs => match rs with
  | [x, y] => (match frz1 x, frz1 y with
    | some d, some e => κ.nx ((ρ.set i (.fz d)).set j (.fz e))
    | _, _ => False)
  | _ => False) (fun nm => κ.ex nm ρ)
section
variable {X : Cx} {W : WX} {pos : Pos}
theorem ms_par (i j : Nat) {x y : Str} {a b : Expr} {da : DA} {px py pt : Pos} {kt k2 : Nat} {pt2 : Pos} (hc : X.calm = true) (hN : X.N.Nodup) (ha : MA X W [a, b] da) (hij : i ≠ j := by decide) (hi : X.N[i]? = some x := by rfl) (hj : X.N[j]? = some y := by rfl)
    (hx : X.env.scope.names.lookup x = some .local := by rfl) (hy : X.env.scope.names.lookup y = some .local := by rfl)
    (hw : swappedStores [.Tuple [.Name x px, .Name y py] kt pt] (.Tuple [a, b] k2 pt2) X.env = pure (some [x, y]) := by rfl)
    (hs : swapsWithSole [.Tuple [.Name x px, .Name y py] kt pt] (.Tuple [a, b] k2 pt2) pos.line X.env = pure false := by rfl) : MS X W (.Assign [.Tuple [.Name x px, .Name y py] kt pt] (.Tuple [a, b] k2 pt2) pos) (sPar i j da) := by
  obtain ⟨t, pa, oa⟩ := ha
  refine ⟨_, ps_par hc hN hi hj hij hx hy pa hw hs, fun H0 G0 G ρ σ H D κ R h E => ?_⟩
  refine oa H0 G0 G ρ σ H _ _ _ R h (fun vs H1 G1 rs x1 hr k => ?_) (E.xok R)
  split at k
  · rename_i x y
    split at k
    · rename_i d e ed ee
      obtain ⟨G2, x2, s2, r2⟩ := frzs_ok (ds := [d, e]) x1 hr (by unfold frzs frzs frzs; rw [ed, ee])
      unfold RdL at r2
      obtain ⟨v, w1, rfl, h1, h2⟩ := r2
      unfold RdL at h2
      obtain ⟨w, w2, rfl, h3, h4⟩ := h2
      unfold RdL at h4
      subst h4
      have R1 := R.store (r := .v d) (i := i) x2 h1 rfl
      have R2 := R1.store (r := .v e) (i := j) (Ext.refl x2.s) h3 rfl
      exact ⟨v, w, rfl, E.nx _ _ _ _ R2 k⟩
    · exact k.elim
  · exact k.elim
end

/-! ### what is walked -/
abbrev DI := List Sl → (List Dat → Prop) → (Str → Prop) → Prop
structure ItOk (K : PySem.W.Frag) (J : It) (ds : List Dat) (B G : Hp) : Prop where
  go : ∀ i H, Same B H → Same G H → i < ds.length → J.go i H
  stop : ∀ i H, Same B H → Same G H → ds.length ≤ i → J.stop i H
  yld : ∀ i H x H' Gc d, Same B H → Same G Gc → Same Gc H → ds[i]? = some d → J.yld i H x H' → ∃ G', Ext H Gc H' G' ∧ RdD K G' d x
def IOk (K : PySem.W.Frag) (c : Bool) (mg : MG) (W : WX) (wi : TI) (δ : DI) : Prop := ∀ H0 G0 G ρ σ H (R : It → Hp → Prop) κ ε, Rel K H0 G0 G ρ σ H → δ ρ κ ε →
  (∀ J H' G' ds, Ext H G H' G' → ItOk K J ds (if c = true then H' else H0) G' → κ ds → R J H') → XOk mg W H G σ ε → wi σ H R
structure MI (X : Cx) (W : WX) (c : Bool) (tg iter : Expr) (δ : DI) : Prop where
  ex : ∃ wi, PI X tg iter wi ∧ IOk X.K c X.mg W wi δ
/-- a list (or a tuple); c: one's own too -/
def stays : Bool → Rv → Bool
  | false, .o _ => false
  | _, _ => true
def iLst (c : Bool) (a : DE) : DI := fun ρ κ ε => a ρ (fun r => stays c r = true ∧ asQ r κ) ε
def iSeq (K : PySem.W.Frag) (tl : TE) : TI := fun σ H R => tl σ H fun x H1 => ∃ a, x = .ref a ∧ (((∃ xs, SqL K H1 a xs) ∧ R (Itl K a) H1) ∨ ((∃ xs, SqT K H1 a xs) ∧ R (Itt K a) H1))
theorem pi_seq {X : Cx} {tg l : Expr} {tl : TE} (hl : PE X l tl) : PI X tg l (iSeq X.K tl) := by
  refine ⟨fun pins s σ H R I h => ?_⟩
  refine thn (hl.run pins s σ H _ I h) fun v s1 ⟨x, H1, I1, r1, q1⟩ => ?_
  obtain ⟨a, e, q1⟩ := q1
  subst e
  cases r1
  rcases q1 with ⟨⟨xs, hq⟩, q⟩ | ⟨⟨xs, hq⟩, q⟩
  · obtain ⟨its, rv, p, hz⟩ := I1.list hq
    refine wpAny_pyIter_list p.isList ?_
    refine ⟨s1.heap.objs.size, [s1.heap.objs.size], _, _, H1, rfl, I1.kept (t' := s1.toks) fun b o e => Heap.get?_push_of_some _ e, turn_list a _, ⟨_, Heap.get?_push_size _ rfl, rfl, rfl⟩, fun b hb => ?_, q⟩
    have e : b = s1.heap.objs.size := by simpa using hb
    subst e
    exact I1.fpOk (Nat.le_refl _) (I1.hok.fresh (Nat.le_refl _))
  · obtain ⟨its, rv, p, hz⟩ := I1.tuple hq
    refine wpAny_pyIter_tuple (show s1.heap.IsTuple a its.toArray from p) ?_
    refine ⟨s1.heap.objs.size, [s1.heap.objs.size], _, _, H1, rfl, I1.kept (t' := s1.toks) fun b o e => Heap.get?_push_of_some _ e, turn_tuple a _, ⟨_, Heap.get?_push_size _ rfl, rfl, rfl⟩, fun b hb => ?_, q⟩
    have e : b = s1.heap.objs.size := by simpa using hb
    subst e
    exact I1.fpOk (Nat.le_refl _) (I1.hok.fresh (Nat.le_refl _))
theorem itOk_list {K : PySem.W.Frag} {a : Addr} {vs : List V} {ds : List Dat} {B G : Hp} (h : ∀ H, Same B H → Same G H → SqL K H a vs) (r : RdL K G ds vs) : ItOk K (Itl K a) ds B G := by
  refine ⟨fun i H b g hi => ?_, fun i H b g hi => ⟨vs, h H b g, by rw [← r.len]; exact hi⟩, fun i H x H' Gc d b g gc hd hy => ?_⟩
  · rw [r.len] at hi
    exact ⟨vs, _, h H b g, List.getElem?_eq_getElem hi⟩
  · obtain ⟨rfl, q⟩ := hy
    obtain ⟨v, e1, e2⟩ := r.get hd
    have e := q vs (h _ b (g.trans gc))
    rw [e1] at e
    cases e
    exact ⟨Gc, Ext.refl gc, RdD.mono g _ _ e2⟩
theorem itOk_tup {K : PySem.W.Frag} {a : Addr} {vs : List V} {ds : List Dat} {B G : Hp} (h : ∀ H, Same B H → Same G H → SqT K H a vs) (r : RdL K G ds vs) : ItOk K (Itt K a) ds B G := by
  refine ⟨fun i H b g hi => ?_, fun i H b g hi => ⟨vs, h H b g, by rw [← r.len]; exact hi⟩, fun i H x H' Gc d b g gc hd hy => ?_⟩
  · rw [r.len] at hi
    exact ⟨vs, _, h H b g, List.getElem?_eq_getElem hi⟩
  · obtain ⟨rfl, q⟩ := hy
    obtain ⟨v, e1, e2⟩ := r.get hd
    have e := q vs (h _ b (g.trans gc))
    rw [e1] at e
    cases e
    exact ⟨Gc, Ext.refl gc, RdD.mono g _ _ e2⟩
theorem itOk_rng {lo : Int} {n : Nat} {B G : Hp} : ItOk K (Itr lo n) ((List.range n).map fun (i : Nat) => Dat.int (lo + (i : Int))) B G := by
  refine ⟨fun i H b g hi => (show i < n by simpa using hi), fun i H b g hi => (show n ≤ i by simpa using hi), fun i H x H' Gc d b g gc hd hy => ?_⟩
  obtain ⟨rfl, rfl⟩ := hy
  refine ⟨Gc, Ext.refl gc, ?_⟩
  rw [List.getElem?_map] at hd
  by_cases hi : i < n
  · rw [List.getElem?_range hi] at hd
    cases hd
    unfold RdD; rfl
  · rw [List.getElem?_eq_none (by simpa using hi)] at hd
    exact nomatch hd
section
variable {X : Cx} {W : WX} {tg e a b : Expr} {d da db : DE} {c : Bool}
theorem mi_list (h : ME X W e d) : MI X W c tg e (iLst c d) := by
  obtain ⟨t, pa, oa⟩ := h
  refine ⟨_, pi_seq pa, fun H0 G0 G ρ σ H R κ ε RR h hq hx => ?_⟩
  refine oa H0 G0 G ρ σ H _ _ ε RR h (fun v H1 G1 r x1 hr k => ?_) hx
  obtain ⟨ks, k⟩ := k
  obtain ⟨ds, ed, k⟩ := asQ.of k
  have R1 := RR.on x1
  rcases ed with ed | ed
  rotate_left
  · obtain rfl := Rv.tup_of ed
    have hr : RdD X.K G1 (.tup ds) v := hr
    unfold RdD at hr
    obtain ⟨l, vs, rfl, b2, c2⟩ := hr
    exact ⟨l, rfl, .inr ⟨⟨vs, SqT.of (x1.s _ _ b2)⟩, hq _ H1 G1 ds x1 (itOk_tup (vs := vs) (fun H b g => SqT.of (g _ _ b2)) c2) k⟩⟩
  obtain ⟨l, vs, rfl, b1, c1⟩ := hr.lst x1.s R1.ext.h ed
  refine ⟨l, rfl, .inl ⟨⟨vs, b1⟩, ?_⟩⟩
  by_cases hcc : c = true
  · refine hq _ H1 G1 ds x1 ?_ k
    rw [if_pos hcc]
    exact itOk_list (vs := vs) (fun H b g => rd_mono b b1) c1
  · cases r with
    | v d0 =>
      have ed : d0 = .lst ds := ed
      subst ed
      have hr : RdD X.K G1 (.lst ds) (.ref l) := hr
      unfold RdD at hr
      obtain ⟨l', vs', e1, b2, c2⟩ := hr
      cases e1
      exact hq _ H1 G1 ds x1 (itOk_list (vs := vs') (fun H b g => rd_mono g b2) c2) k
    | n es =>
      injection ed with ed; subst ed
      obtain ⟨l', vs', e1, b2, c2, n2, g2⟩ := hr
      cases e1
      obtain ⟨y, s⟩ := x1.put n2 b2 g2
      exact hq _ H1 _ es y (itOk_list (vs := vs') (fun H b g => sq_of (g _ _ upd_same)) (c2.mono s)) k
    | b es =>
      injection ed with ed; subst ed
      obtain ⟨l', vs', e1, b2, c2⟩ := hr
      cases e1
      refine hq _ H1 G1 es x1 ?_ k
      rw [if_neg hcc]
      exact itOk_list (vs := vs') (fun H b g => rd_mono b b2) c2
    | o es =>
      cases c with
      | true => exact absurd rfl hcc
      | false => exact nomatch ks
def iTupD (a : DE) : DI := fun ρ κ ε => a ρ (fun r => match r with
  | .v (.tup ds) => κ ds
  | _ => False) ε
theorem mi_tup (h : ME X W e d) : MI X W c tg e (iTupD d) := by
  obtain ⟨t, pa, oa⟩ := h
  refine ⟨_, pi_tup pa, fun H0 G0 G ρ σ H R κ ε RR h hq hx => ?_⟩
  refine oa H0 G0 G ρ σ H _ _ ε RR h (fun v H1 G1 r x1 hr k => ?_) hx
  split at k
  · rename_i ds
    have hr : RdD X.K G1 (.tup ds) v := hr
    unfold RdD at hr
    obtain ⟨l, vs, rfl, b2, c2⟩ := hr
    exact ⟨l, rfl, ⟨vs, SqT.of (x1.s _ _ b2)⟩, hq _ H1 G1 ds x1 (itOk_tup (vs := vs) (fun H b g => SqT.of (g _ _ b2)) c2) k⟩
  · exact k.elim
def rngD (lo : Int) (n : Nat) : List Dat := (List.range n).map fun (i : Nat) => Dat.int (lo + (i : Int))
def iRng1 (a : DE) : DI := fun ρ κ ε => a ρ (fun x => asI x fun j => (-(2 ^ 62) ≤ j ∧ j < 2 ^ 62) ∧ κ (rngD 0 j.toNat)) ε
def iRng2 (a b : DE) : DI := fun ρ κ ε => a ρ (fun x => b ρ (fun y => asI x fun i => asI y fun j => (-(2 ^ 62) ≤ i ∧ i < 2 ^ 62 ∧ -(2 ^ 62) ≤ j ∧ j < 2 ^ 62) ∧ κ (rngD i (j - i).toNat)) ε) ε
theorem mi_rng1 {p pos : Pos} (hm : X.mg "range" = none) (ha : ME X W a da) (hg : Gl X "range" := by rfl) (hs : starEach [a] X.env = [(false, eval a X.env)] := by rfl) : MI X W c tg (.Call (.Name "range" p) [a] [] pos) (iRng1 da) := by
  obtain ⟨t, pa, oa⟩ := ha
  refine ⟨_, pi_range1 hg hm (pa_cons pa pa_nil hs) hs, fun H0 G0 G ρ σ H R κ ε RR h hq hx => ?_⟩
  refine oa H0 G0 G ρ σ H _ _ ε RR h (fun v H1 G1 r x1 hr k => ?_) hx
  obtain ⟨j, rfl, k1, k2⟩ := asI.of k
  have hr : RdD X.K G1 (.int j) v := hr
  unfold RdD at hr
  subst hr
  exact ⟨j, rfl, k1.1, k1.2, hq _ H1 G1 _ x1 itOk_rng k2⟩
theorem mi_rng2 {p pos : Pos} (hm : X.mg "range" = none) (ha : ME X W a da) (hb : ME X W b db) (hg : Gl X "range" := by rfl) (hs : starEach [a, b] X.env = [(false, eval a X.env), (false, eval b X.env)] := by rfl) (hs2 : starEach [b] X.env = [(false, eval b X.env)] := by rfl) : MI X W c tg (.Call (.Name "range" p) [a, b] [] pos) (iRng2 da db) := by
  obtain ⟨t, pa, oa⟩ := ha
  obtain ⟨u, pb, ob⟩ := hb
  refine ⟨_, pi_range2 hg hm (pa_cons pa (pa_cons pb pa_nil hs2) (by rw [hs, hs2])) hs hs2, fun H0 G0 G ρ σ H R κ ε RR h hq hx => ?_⟩
  refine oa H0 G0 G ρ σ H _ _ ε RR h (fun v H1 G1 r x1 hr k => ?_) hx
  refine ob H0 G0 G1 ρ σ H1 _ _ ε (RR.on x1) k (fun w H2 G2 z x2 hz k2 => ?_) (hx.on x1)
  obtain ⟨i, rfl, k3⟩ := asI.of k2
  obtain ⟨j, rfl, k4, k5⟩ := asI.of k3
  have hr : RdD X.K G1 (.int i) v := hr
  have hz : RdD X.K G2 (.int j) w := hz
  unfold RdD at hr hz
  subst hr hz
  exact ⟨i, j, rfl, k4, hq _ H2 G2 _ (x1.trans x2) itOk_rng k5⟩
end

/-! ### for -/
def sForL (g : DG) (b : DS) (κ : DEnds) : List Dat → List Sl → Prop
  | [], ρ => κ.nx ρ
  | d :: ds, ρ => g (.v d) ρ (fun ρ1 => b { κ with nx := sForL g b κ ds, ct := sForL g b κ ds, bk := κ.nx } ρ1)
def sFor (i : DI) (g : DG) (b : DS) : DS := fun κ ρ => i ρ (fun ds => sForL g b κ ds ρ) (fun nm => κ.ex nm ρ)
section
variable {X : Cx} {W : WX} {tg iter : Expr} {body : List Stmt} {i : DI} {g : DG} {b : DS} {pos : Pos}
theorem ms_for {k : Nat} {is : List Nat} (C : Cn X W k) (hi : MI X W false tg iter i) (hg : MG1 X tg is g) (hb : MSs X W body b) (hs : ∀ x, foldedSetIterable iter X.env x = pure x := by intro _; rfl) : MS X W (.For tg iter body [] pos) (sFor i g b) := by
  obtain ⟨wi, pi, oi⟩ := hi
  obtain ⟨tg', pg, og⟩ := hg
  obtain ⟨tb, pb, ob⟩ := hb
  refine ⟨_, ps_for C.hp C.hc pi pg pb hs, fun H0 G0 G ρ σ H D κ R h E => ?_⟩
  refine oi H0 G0 G ρ σ H _ _ _ R h (fun J H1 G1 ds x1 hj hk => ?_) (E.xok R)
  have R1 := R.on x1
  have E1 := E.sub R1
  have hj : ItOk X.K J ds H0 G1 := hj
  refine ⟨fun i m σ H => ∃ ρ G', Rel X.K H0 G1 G' ρ σ H ∧ m = ds.length - i ∧ sForL g b κ (ds.drop i) ρ, ⟨ds.length, ρ, G1, R1.here, rfl, by simpa using hk⟩, ?_⟩
  rintro i m σ' H' ⟨ρ', G', R', rfl, hl⟩
  by_cases hlt : i < ds.length
  · refine .inr ⟨hj.go i H' R'.ext.h (R'.ext.g.trans R'.ext.s) hlt, fun σ2 H2 => ∃ ρ2 G2, Rel X.K H0 G1 G2 ρ2 σ2 H2 ∧ sForL g b κ (ds.drop (i + 1)) ρ2, fun σ2 H2 ⟨ρ2, G2, R2, h2⟩ => ⟨ds.length - (i + 1), by omega, ρ2, G2, R2, rfl, h2⟩, fun x H2 hy => ?_⟩
    have hd : ds[i]? = some ds[i] := List.getElem?_eq_getElem hlt
    obtain ⟨G2, x2, r2⟩ := hj.yld i H' x H2 G' _ R'.ext.h R'.ext.g R'.ext.s hd hy
    rw [List.drop_eq_getElem_cons hlt] at hl
    refine og H0 G1 G' G2 ρ' σ' H' H2 (.v ds[i]) x _ _ R' x2 r2 hl fun ρ3 σ3 R3 _ k3 => ?_
    exact ob H0 G1 G2 ρ3 σ3 H2 _ _ R3 k3 ⟨fun ρ4 σ4 H4 G4 R4 k4 => ⟨ρ4, G4, R4, k4⟩, fun ρ4 σ4 H4 G4 R4 k4 => E1.nx ρ4 σ4 H4 G4 R4 k4, fun ρ4 σ4 H4 G4 R4 k4 => ⟨ρ4, G4, R4, k4⟩, E1.rt, E1.ex⟩
  · refine .inl ⟨hj.stop i H' R'.ext.h (R'.ext.g.trans R'.ext.s) (by omega), ?_⟩
    rw [List.drop_eq_nil_of_le (by omega)] at hl
    exact E1.nx ρ' σ' H' G' R' hl
end

/-! ### while -/
def wIter (c : DT) (b : DS) (κ : DEnds) : Nat → List Sl → Prop
  | 0, _ => False
  | n + 1, ρ => c ρ (fun k => if k = true then b { κ with nx := wIter c b κ n, ct := wIter c b κ n, bk := κ.nx } ρ else κ.nx ρ) (fun nm => κ.ex nm ρ)
def sWhile (c : DT) (b : DS) : DS := fun κ ρ => ∃ n, wIter c b κ n ρ
section
variable {X : Cx} {W : WX} {t : Expr} {body : List Stmt} {c : DT} {b : DS} {pos : Pos}
theorem ms_while {k : Nat} (C : Cn X W k) (hc : MT X W t c) (hb : MSs X W body b) : MS X W (.While t body [] pos) (sWhile c b) := by
  obtain ⟨tc, pc, oc⟩ := hc
  obtain ⟨tb, pb, ob⟩ := hb
  refine ⟨_, ps_while C.hp pc pb, fun H0 G0 G ρ σ H D κ R ⟨n, h⟩ E => ?_⟩
  refine ⟨fun m σ H => ∃ ρ G', Rel X.K H0 G0 G' ρ σ H ∧ wIter c b κ m ρ, ⟨n, ρ, G, R, h⟩, ?_⟩
  rintro m σ' H' ⟨ρ', G', R', hm⟩
  cases m with
  | zero => exact hm.elim
  | succ m =>
    refine oc H0 G0 G' ρ' σ' H' _ _ _ R' hm (fun kk H2 G2 x2 hk => ?_) (E.xok R')
    have R2 := R'.on x2
    by_cases hkk : kk = true
    · rw [if_pos hkk] at hk ⊢
      refine ⟨fun σ3 H3 => ∃ ρ3 G3, Rel X.K H0 G0 G3 ρ3 σ3 H3 ∧ wIter c b κ m ρ3, fun σ3 H3 h3 => ⟨m, Nat.lt_succ_self m, h3⟩, ?_⟩
      exact ob H0 G0 G2 ρ' σ' H2 _ _ R2 hk ⟨fun ρ4 σ4 H4 G4 R4 k4 => ⟨ρ4, G4, R4, k4⟩, fun ρ4 σ4 H4 G4 R4 k4 => E.nx ρ4 σ4 H4 G4 R4 k4, fun ρ4 σ4 H4 G4 R4 k4 => ⟨ρ4, G4, R4, k4⟩, E.rt, E.ex⟩
    · rw [if_neg hkk] at hk ⊢
      exact E.nx _ _ _ _ R2 hk
end
end DL
namespace DL
open PySem PySem.Spec PyProof.Rows L2
variable {K : PySem.W.Frag}

/-! ### comprehensions -/
def wipeS (ρ : List Sl) : List Nat → List Sl
  | [] => ρ
  | v :: vs => (wipeS ρ vs).set v .un
theorem wipeS_len (ρ : List Sl) : ∀ vs : List Nat, (wipeS ρ vs).length = ρ.length
  | [] => rfl
  | v :: vs => by unfold wipeS; rw [List.length_set, wipeS_len ρ vs]
theorem wipeS_at (ρ : List Sl) : ∀ (vs : List Nat) (i : Nat) (s : Sl), (wipeS ρ vs)[i]? = some s → s = Sl.un ∨ (ρ[i]? = some s ∧ i ∉ vs)
  | [], i, s, h => .inr ⟨h, by simp⟩
  | v :: vs, i, s, h => by
    unfold wipeS at h
    by_cases hv : v = i
    · subst hv
      by_cases hl : v < (wipeS ρ vs).length
      · rw [List.getElem?_set_self hl] at h; cases h; exact .inl rfl
      · rw [List.getElem?_eq_none (by rw [List.length_set]; omega)] at h; exact nomatch h
    · rw [List.getElem?_set_ne hv] at h
      rcases wipeS_at ρ vs i s h with e | ⟨a, b⟩
      · exact .inl e
      · exact .inr ⟨a, fun z => (List.mem_cons.mp z).elim (fun q => hv q.symm) b⟩
theorem Rel.wipe {H0 G0 G H : Hp} {ρ : List Sl} {σ : L2.St} (R : Rel K H0 G0 G ρ σ H) (vs : List Nat) : Rel K H0 G0 G (wipeS ρ vs) (wipe σ vs) H :=
  R.weak (wipeS_len ρ vs) (wipe_length σ vs) fun i s h => by
    rcases wipeS_at ρ vs i s h with e | ⟨a, b⟩
    · exact .inl e
    · exact .inr ⟨a, wipe_out b⟩
theorem wipe_in {σ : L2.St} : ∀ {vs : List Nat} {i : Nat}, i ∈ vs → i < σ.length → (wipe σ vs)[i]? = some none
  | v :: vs, i, h, hl => by
    unfold wipe
    by_cases hv : v = i
    · subst hv
      rw [List.getElem?_set_self (by rw [wipe_length]; exact hl)]
    · rw [List.getElem?_set_ne hv]
      exact wipe_in ((List.mem_cons.mp h).elim (fun q => absurd q.symm hv) id) hl
theorem wipe_tch {is vs : List Nat} {σ σ' : L2.St} (h : Tch is (wipe σ vs) σ') (s : ∀ i ∈ is, i ∈ vs) : wipe σ' vs = wipe σ vs := by
  apply List.ext_getElem?
  intro i
  have hl : σ'.length = σ.length := by rw [h.1, wipe_length]
  by_cases hi : i ∈ vs
  · by_cases hb : i < σ.length
    · rw [wipe_in hi (by rw [hl]; exact hb), wipe_in hi hb]
    · rw [List.getElem?_eq_none (by rw [wipe_length]; omega), List.getElem?_eq_none (by rw [wipe_length]; omega)]
  · rw [wipe_out hi, h.2 i (fun z => hi (s i z))]
def lcL (g : DG) (t : DT) (e : DE) (ρ : List Sl) (κ : Rv → Prop) (acc : List Dat) : List Dat → Prop
  | [] => κ (.n acc)
  | d :: ds => g (.v d) ρ (fun ρ1 => t ρ1 (fun b => if b = true then e ρ1 (fun r => match frz1 r with
    | some x => acc.length < sizeLine ∧ lcL g t e ρ κ (acc ++ [x]) ds
    | none => False) (fun _ => False) else lcL g t e ρ κ acc ds) (fun _ => False))
def dLc (i : DI) (g : DG) (t : DT) (e : DE) (vs : List Nat) : DE := fun ρ κ ε => i ρ (fun ds => lcL g t e (wipeS ρ vs) κ [] ds) ε
abbrev W0 : WX := fun _ _ _ _ => False
theorem XOk.none {mg : MG} {H G : Hp} {σ : L2.St} : XOk mg W0 H G σ (fun _ => False) := fun _ _ _ _ _ _ k => k
structure MTs (X : Cx) (W : WX) (es : List Expr) (δ : DT) : Prop where
  ex : ∃ t, PTs X es t ∧ TOk X.K X.mg W t δ
def tYesD : DT := fun _ κ _ => κ true
theorem mts_nil {X : Cx} {W : WX} : MTs X W [] tYesD := ⟨_, pts_nil, fun H0 G0 G ρ σ H Q κ ε R h hq hx => hq _ H G (Ext.refl R.ext.s) h⟩
theorem mts_one {X : Cx} {W : WX} {c : Expr} {p : DT} (h : MT X W c p) : MTs X W [c] p := by
  obtain ⟨t, pa, oa⟩ := h
  exact ⟨_, pts_one pa, oa⟩
theorem eok_lc {mg : MG} {W : WX} {wi : TI} {g : TG} {tt : TT} {te : TE} {vs is : List Nat} {di : DI} {dg : DG} {dt : DT} {de : DE} (hi : IOk K true mg W wi di) (hg : GOk K g is dg) (ht : TOk K mg W0 tt dt) (he : EOk K mg W0 te de) (hv : ∀ i ∈ is, i ∈ vs) : EOk K mg W (tLc wi g tt te vs) (dLc di dg dt de vs) := by
  intro H0 G0 G ρ σ H Q κ ε R h hq hx
  refine hi H0 G0 G ρ σ H _ _ ε R h (fun J H1 G1 ds x1 hj hk => ?_) hx
  have hj : ItOk K J ds H1 G1 := hj
  intro D nD
  have x0 := Ext.newH (o := HO.lst []) x1.s nD
  have nDH : H D = none := x1.h.free nD
  have nDG : G1 D = none := x1.s.free nD
  refine ⟨fun i m H' => ∃ (acc : List Dat) (vacc : List V) (G' : Hp), Ext H G H' G' ∧ Ext H1 G1 H' G' ∧ H' D = some (.lst vacc) ∧ RdL K G' acc vacc ∧ G' D = none ∧ m = ds.length - i ∧ lcL dg dt de (wipeS ρ vs) κ acc (ds.drop i),
    ⟨ds.length, [], [], G1, x1.trans x0, x0, upd_same, RdL.nil, nDG, rfl, by simpa using hk⟩, ?_⟩
  rintro i m H' ⟨acc, vacc, G', xs, xn, hD, rD, gD, rfl, hl⟩
  by_cases hlt : i < ds.length
  · refine .inr ⟨hj.go i H' xn.h (xn.g.trans xn.s) hlt, fun H2 => ∃ (acc : List Dat) (vacc : List V) (G' : Hp), Ext H G H2 G' ∧ Ext H1 G1 H2 G' ∧ H2 D = some (.lst vacc) ∧ RdL K G' acc vacc ∧ G' D = none ∧ lcL dg dt de (wipeS ρ vs) κ acc (ds.drop (i + 1)),
      fun H2 ⟨a, b, c, h1, h2, h3, h4, h5, h6⟩ => ⟨ds.length - (i + 1), by omega, a, b, c, h1, h2, h3, h4, h5, rfl, h6⟩, fun x H2 hy => ?_⟩
    have hd : ds[i]? = some ds[i] := List.getElem?_eq_getElem hlt
    obtain ⟨G2, x2, r2⟩ := hj.yld i H' x H2 G' _ xn.h xn.g xn.s hd hy
    rw [List.drop_eq_getElem_cons hlt] at hl
    have Rw := (R.on xs).wipe vs
    refine hg H0 G0 G' G2 _ _ H' H2 (.v ds[i]) x _ _ Rw x2 r2 hl fun ρ3 σ3 R3 t3 k3 => ?_
    refine ⟨wipe_tch t3 hv, ?_⟩
    refine ht H0 G0 G2 ρ3 σ3 H2 _ _ _ R3 k3 (fun b H3 G3 x3 hb => ?_) XOk.none
    have xs3 := (xs.trans x2).trans x3
    have xn3 := (xn.trans x2).trans x3
    have gD3 : G3 D = none := (x2.trans x3).f D (by rw [hD]; exact fun z => nomatch z) gD
    by_cases hbb : b = true
    · rw [if_pos hbb] at hb ⊢
      refine he H0 G0 G3 ρ3 σ3 H3 _ _ _ (R3.on x3) hb (fun y H4 G4 r x4 hr k4 => ?_) XOk.none
      split at k4
      · rename_i z ez
        obtain ⟨G5, x5, s5, r5⟩ := frz1_ok (Same.refl G4) x4 hr ez
        have hD3 := x3.h _ _ (x2.h _ _ hD)
        have hD4 : H4 D = some (.lst vacc) := x4.h _ _ hD3
        have gD5 : G5 D = none := x5.f D (by rw [hD3]; exact fun z => nomatch z) gD3
        refine ⟨vacc, hD4, by rw [← rD.len]; exact k4.1, ?_⟩
        have xs5 := xs3.trans x5
        have xn5 := xn3.trans x5
        have wr : ∀ {A : Hp}, Same A H4 → A D = none → Same A (upd H4 D (.lst (vacc ++ [y]))) := fun s n b o hb' => by
          rw [upd_ne (fun z => by rw [z, n] at hb'; exact nomatch hb')]
          exact s _ _ hb'
        refine ⟨acc ++ [z], vacc ++ [y], G5, ⟨wr xs5.h nDH, xs5.g, wr xs5.s gD5, xs5.f⟩, ⟨wr xn5.h nD, xn5.g, wr xn5.s gD5, xn5.f⟩, upd_same, ?_, gD5, k4.2⟩
        exact (rD.mono ((x2.g.trans x3.g).trans x5.g)).append (RdL.cons r5 RdL.nil)
      · exact k4.elim
    · rw [if_neg hbb] at hb ⊢
      exact ⟨acc, vacc, G3, xs3, xn3, x3.h _ _ (x2.h _ _ hD), rD.mono (x2.g.trans x3.g), gD3, hb⟩
  · refine .inl ⟨hj.stop i H' xn.h (xn.g.trans xn.s) (by omega), ?_⟩
    rw [List.drop_eq_nil_of_le (by omega)] at hl
    exact hq (.ref D) H' G' (.n acc) xs ⟨D, vacc, rfl, hD, rD, nDH, gD⟩ hl
section
variable {X : Cx} {W : WX} {elt tg iter : Expr} {ifs : List Expr} {scope : Scope} {own : List (Str × Nat)} {is : List Nat} {di : DI} {dg : DG} {dt : DT} {de : DE} {pos : Pos}
/-- one reading for all the contexts of a block -/
theorem blk_e {F : Type} {Y : F → Cx} {mg : MG} {W : WX} {e : Expr} {δ : DE} (hm : ∀ f, (Y f).mg = mg) (hk : ∀ f, (Y f).K = K) (h : ∀ f, ME (Y f) W e δ) : ∃ t, (∀ f, PE (Y f) e t) ∧ EOk K mg W t δ := by
  refine ⟨fun σ H Q => ∀ f t, PE (Y f) e t → EOk K mg W t δ → t σ H Q, fun f => ?_, fun H0 G0 G ρ σ H Q κ ε R h1 hq hx f t _ ok => ok H0 G0 G ρ σ H Q κ ε R h1 hq hx⟩
  obtain ⟨t, pe, ok⟩ := h f
  rw [hm f, hk f] at ok
  exact ⟨fun pins s σ H Q I q => pe.run pins s σ H Q I (q f t pe ok)⟩
theorem blk_t {F : Type} {Y : F → Cx} {mg : MG} {W : WX} {es : List Expr} {δ : DT} (hm : ∀ f, (Y f).mg = mg) (hk : ∀ f, (Y f).K = K) (h : ∀ f, MTs (Y f) W es δ) : ∃ t, (∀ f, PTs (Y f) es t) ∧ TOk K mg W t δ := by
  refine ⟨fun σ H Q => ∀ f t, PTs (Y f) es t → TOk K mg W t δ → t σ H Q, fun f => ?_, fun H0 G0 G ρ σ H Q κ ε R h1 hq hx f t _ ok => ok H0 G0 G ρ σ H Q κ ε R h1 hq hx⟩
  obtain ⟨t, pe, ok⟩ := h f
  rw [hm f, hk f] at ok
  exact ⟨fun pins s σ H Q I q => pe.run pins s σ H Q I (q f t pe ok)⟩
theorem blk_g {F : Type} {Y : F → Cx} {e : Expr} {is : List Nat} {γ : DG} (hk : ∀ f, (Y f).K = K) (h : ∀ f, MG1 (Y f) e is γ) : ∃ t, (∀ f, PG (Y f) e t) ∧ GOk K t is γ := by
  refine ⟨fun v σ H Q => ∀ f t, PG (Y f) e t → GOk K t is γ → t v σ H Q, fun f => ?_, fun H0 G0 Gs G ρ σ Hs H r v Q κ R x hr hg hq f t _ ok => ok H0 G0 Gs G ρ σ Hs H r v Q κ R x hr hg hq⟩
  obtain ⟨t, pe, ok⟩ := h f
  rw [hk f] at ok
  exact ⟨fun pins s σ H v u Q I ru q => pe.run pins s σ H v u Q I ru (q f t pe ok)⟩
abbrev BlkT := Shared × Hp × Addr × List (Str × Addr) × List Addr
abbrev blkX (X : Cx) (scope : Scope) (f : BlkT) : Cx := X.blk f.1 f.2.1 scope (compEnvC scope f.2.2.2.1 f.2.2.1 X.env) f.2.2.2.2
theorem lc_all {k : Nat} (C : Cn X W k) (hi : MI X W true tg iter di) (hv : ∀ i ∈ is, i ∈ own.map (·.2))
    (hg : ∀ f, MG1 (blkX X scope f) tg is dg) (ht : ∀ f, MTs (blkX X scope f) W0 ifs dt) (he : ∀ f, ME (blkX X scope f) W0 elt de) :
    ∃ wi g tt te, PI X tg iter wi ∧ (∀ s H C cl fp, PG (X.blk s H scope (compEnvC scope cl C X.env) fp) tg g) ∧ (∀ s H C cl fp, PTs (X.blk s H scope (compEnvC scope cl C X.env) fp) ifs tt) ∧ (∀ s H C cl fp, PE (X.blk s H scope (compEnvC scope cl C X.env) fp) elt te) ∧
      EOk X.K X.mg W (tLc wi g tt te (own.map (·.2))) (dLc di dg dt de (own.map (·.2))) := by
  obtain ⟨wi, pi, oi⟩ := hi
  obtain ⟨g, pg, og⟩ := blk_g (K := X.K) (Y := blkX X scope) (fun _ => rfl) hg
  obtain ⟨tt, pt, ot⟩ := blk_t (K := X.K) (Y := blkX X scope) (mg := X.mg) (fun _ => rfl) (fun _ => rfl) ht
  obtain ⟨te, pe, oe⟩ := blk_e (K := X.K) (Y := blkX X scope) (mg := X.mg) (fun _ => rfl) (fun _ => rfl) he
  exact ⟨wi, g, tt, te, pi, fun s H C cl fp => pg (s, H, C, cl, fp), fun s H C cl fp => pt (s, H, C, cl, fp), fun s H C cl fp => pe (s, H, C, cl, fp), eok_lc oi og ot oe hv⟩
theorem me_lc {k : Nat} (C : Cn X W k) (hi : MI X W true tg iter di) (ok : BlkOk X.N X.env.scope scope own) (hg : ∀ f, MG1 (blkX X scope f) tg is dg) (ht : ∀ f, MTs (blkX X scope f) W0 ifs dt) (he : ∀ f, ME (blkX X scope f) W0 elt de)
    (hv : ∀ i ∈ is, i ∈ own.map (·.2) := by decide) (hs : ∀ x, foldedSetIterable iter X.env x = pure x := by intro _; rfl) : ME X W (.ListComp elt [⟨tg, iter, ifs, 0⟩] scope pos) (dLc di dg dt de (own.map (·.2))) := by
  obtain ⟨wi, g, tt, te, h1, h2, h3, h4, h5⟩ := lc_all C hi hv hg ht he
  exact ⟨_, pe_lc C.hc C.nd h1 ok h2 h3 h4 hs, h5⟩
/-- y = [..] -/
theorem ms_setLc {k : Nat} (i : Nat) {y : Str} {py spos : Pos} (C : Cn X W k) (hi : MI X W true tg iter di) (ok : BlkOk X.N X.env.scope scope own) (hg : ∀ f, MG1 (blkX X scope f) tg is dg) (ht : ∀ f, MTs (blkX X scope f) W0 ifs dt) (he : ∀ f, ME (blkX X scope f) W0 elt de)
    (hsw : swapsWith (.ListComp elt [⟨tg, iter, ifs, 0⟩] scope pos) (some (.Name y py)) spos.line X.env = pure true) (hy : X.N[i]? = some y := by rfl) (hyl : X.env.scope.names.lookup y = some .local := by rfl) (hv : ∀ i ∈ is, i ∈ own.map (·.2) := by decide) (hs : ∀ x, foldedSetIterable iter X.env x = pure x := by intro _; rfl) :
    MS X W (.Assign [.Name y py] (.ListComp elt [⟨tg, iter, ifs, 0⟩] scope pos) spos) (sAsg (dLc di dg dt de (own.map (·.2))) (gN i)) := by
  obtain ⟨wi, g, tt, te, h1, h2, h3, h4, h5⟩ := lc_all C hi hv hg ht he
  refine ⟨_, ps_setLc C.hc C.nd hy hyl hsw h1 ok h2 h3 h4 hs, fun H0 G0 G ρ σ H D κ R h E => ?_⟩
  refine h5 H0 G0 G ρ σ H _ _ _ R h (fun v H' G' r x hr k => ?_) (E.xok R)
  unfold gN at k
  split at k
  · rename_i s e
    exact E.nx _ _ _ _ (R.store x hr e i) k
  · exact k.elim
end

/-! ### calls of the text's own defs -/
/-- what a def does, over data: the arguments, what is wanted of the value, of an exception's class -/
abbrev Fsp := List Dat → (Rv → Prop) → (Str → Prop) → Prop
/-- an argument is handed over: to be kept (true), to be read (false) -/
def arg1 : Bool → Rv → Option Dat
  | true, r => frz1 r
  | false, r => some r.dat
def conv : List Bool → List Rv → Option (List Dat)
  | [], [] => some []
  | m :: ms, r :: rs => match arg1 m r, conv ms rs with
    | some d, some ds => some (d :: ds)
    | _, _ => none
  | _, _ => none
def ArgR (K : PySem.W.Frag) (G H : Hp) (m : Bool) (d : Dat) (v : V) : Prop := match m with
  | true => RdD K G d v
  | false => RdD K G d v ∨ ∃ l vs es, d = .lst es ∧ v = .ref l ∧ SqL K H l vs ∧ RdL K G es vs
def ArgsR (K : PySem.W.Frag) (G H : Hp) : List Bool → List Dat → List V → Prop
  | [], ds, vs => ds = [] ∧ vs = []
  | m :: ms, ds, vs => ∃ d e v w, ds = d :: e ∧ vs = v :: w ∧ ArgR K G H m d v ∧ ArgsR K G H ms e w
def spOf (K : PySem.W.Frag) (mg : MG) (ms : List Bool) (S : Fsp) : Sp := fun vs H Q E => ∃ G ds, Same G H ∧ ArgsR K G H ms ds vs ∧ ∃ κ ε, S ds κ ε ∧ (∀ v H' G' r, Ext H G H' G' → RvR K H G' H H' r v → retOk r = true → κ r → Q v H') ∧
  (∀ nm cls H' G', Ext H G H' G' → mg nm = some cls → ε nm → E cls none H')
theorem ArgR.mono {G G' H : Hp} (s : Same G G') {m : Bool} {d : Dat} {v : V} (h : ArgR K G H m d v) : ArgR K G' H m d v := by
  cases m with
  | true => exact RdD.mono s _ _ h
  | false =>
    rcases h with h | ⟨l, us, es, a, b, c, f⟩
    · exact .inl (RdD.mono s _ _ h)
    · exact .inr ⟨l, us, es, a, b, c, f.mono s⟩
theorem ArgsR.mono {G G' H : Hp} (s : Same G G') : ∀ {ms : List Bool} {ds : List Dat} {vs : List V}, ArgsR K G H ms ds vs → ArgsR K G' H ms ds vs
  | [], _, _, h => h
  | m :: ms, ds, vs, h => by
    obtain ⟨d, e, v, w, h1, h2, h3, h4⟩ := h
    exact ⟨d, e, v, w, h1, h2, h3.mono s, ArgsR.mono s h4⟩
theorem arg1_ok {H0 G G1 H Gs H' : Hp} {m : Bool} {r : Rv} {v : V} {d : Dat} (s0 : Same H0 H') (s1 : Same G G1) (x : Ext H Gs H' G1) (h : RvR K H0 G H H' r v) (e : arg1 m r = some d) : ∃ G', Ext H Gs H' G' ∧ Same G1 G' ∧ ArgR K G' H' m d v := by
  cases m with
  | true => exact frz1_ok s1 x h e
  | false =>
    have e : some r.dat = some d := e
    injection e with e
    subst e
    refine ⟨G1, x, Same.refl _, ?_⟩
    cases r with
    | v d => exact .inl (RdD.mono s1 _ _ h)
    | n ds => obtain ⟨l, vs, a, b, c, _⟩ := h; exact .inr ⟨l, vs, ds, rfl, a, sq_of b, c.mono s1⟩
    | b ds => obtain ⟨l, vs, a, b, c⟩ := h; exact .inr ⟨l, vs, ds, rfl, a, rd_mono s0 b, c.mono s1⟩
    | o ds => obtain ⟨l, vs, a, b, c⟩ := h; exact .inr ⟨l, vs, ds, rfl, a, sq_of b, c.mono s1⟩
theorem conv_ok {H0 G H Gs H' : Hp} (s0 : Same H0 H') (x : Ext H Gs H' G) : ∀ (ms : List Bool) (rs : List Rv) (vs : List V) (ds : List Dat), RvsR K H0 G H H' rs vs → conv ms rs = some ds → ∃ G', Ext H Gs H' G' ∧ Same G G' ∧ ArgsR K G' H' ms ds vs := by
  intro ms
  induction ms with
  | nil =>
    intro rs vs ds h e
    cases rs with
    | nil => injection e with e; subst e; exact ⟨G, x, Same.refl _, rfl, h⟩
    | cons r rs => exact nomatch e
  | cons m ms ih =>
    intro rs vs ds h e
    cases rs with
    | nil => exact nomatch e
    | cons r rs =>
      obtain ⟨v, w, rfl, h1, h2⟩ := h
      unfold conv at e
      split at e
      · rename_i d es e1 e2
        injection e with e; subst e
        obtain ⟨G1, x1, s1, r1⟩ := ih rs w es h2 e2
        obtain ⟨G2, x2, s2, r2⟩ := arg1_ok s0 s1 x1 h1 e1
        exact ⟨G2, x2, s1.trans s2, d, es, v, w, rfl, rfl, r2, r1.mono s2⟩
      · exact nomatch e
def dCall (ms : List Bool) (S : Fsp) (a : DA) : DE := fun ρ κ ε => a ρ (fun rs => match conv ms rs with
  | some ds => S ds κ ε
  | none => False) ε
end DL
namespace DL
open PySem PySem.Spec PyProof.Rows L2
variable {K : PySem.W.Frag}

theorem sp_run {mg : MG} {W : WX} {H0 G H G1 H1 : Hp} {σ : L2.St} {ms : List Bool} {S : Fsp} {rs : List Rv} {vs : List V} {ds : List Dat} {κ : Rv → Prop} {ε : Str → Prop} {Q : VK} (s0 : Same H0 H1) (x1 : Ext H G H1 G1) (h : RvsR K H0 G1 H H1 rs vs) (e : conv ms rs = some ds) (k : S ds κ ε)
    (hq : ∀ v H' G' r, Ext H G H' G' → RvR K H0 G' H H' r v → κ r → Q v H') (hx : XOk mg W H G σ ε) : spOf K mg ms S vs H1 Q (WE W σ) := by
  obtain ⟨G2, x2, s2, r2⟩ := conv_ok s0 x1 ms rs vs ds h e
  refine ⟨G2, ds, x2.s, r2, κ, ε, k, fun v H' G' r x hr ok kr => ?_, fun nm cls H' G' x h1 h2 => hx nm cls H' G' (x2.trans x) h1 h2⟩
  refine hq v H' G' r (x2.trans x) ?_ kr
  cases r with
  | v d => exact hr
  | n ds => obtain ⟨l, vs, a, b, c, n, g⟩ := hr; exact ⟨l, vs, a, b, c, x2.h.free n, g⟩
  | b ds => exact nomatch ok
  | o ds => exact nomatch ok
section
variable {X : Cx} {W : WX} {e : Expr} {es : List Expr} {da : DA} {x : Str} {p pos : Pos} {f : Addr} {fd : FuncData} {ps : List Str} {ms : List Bool} {S : Fsp} {k j : Nat}
theorem me_call (C : Cn X W k) (F : FnOk X.prog X.w X.K X.mg X.base (L2.CX X.prog X.w) j f fd ps (spOf X.K X.mg ms S)) (hm : X.mg x = some (.ref f)) (hk : PySem.W.keepIn X.K (.ref f) = true) (hb : Binds X.K fd ps []) (ha : MA X W (e :: es) da) (hj : j ≤ k := by decide) (hg : Gl X x := by rfl)
    (hdb : (x == ("__debug__" : Str)) = false := by decide) (he : starEach (e :: es) X.env = (false, eval e X.env) :: starEach es X.env := by rfl) (hpl : (backTo pos (starEach es X.env)).any (·.1) = false := by rfl) :
    ME X W (.Call (.Name x p) (e :: es) [] pos) (dCall ms S da) := by
  obtain ⟨t, pa, oa⟩ := ha
  refine ⟨_, pe_callS F (C.hr.mono hj) hg hm hk hb (fun σ => passAt C.tk σ) pa hdb he hpl, fun H0 G0 G ρ σ H Q κ ε R h hq hx => ?_⟩
  refine oa H0 G0 G ρ σ H _ _ ε R h (fun vs H1 G1 rs x1 hr k1 => ?_) hx
  split at k1
  · rename_i ds ed
    exact sp_run (R.on x1).ext.h x1 hr ed k1 hq hx
  · exact k1.elim
end

/-! ### a def by its body -/
def startSl : List Bool → List Dat → List Sl
  | m :: ms, d :: ds => (if m = true then Sl.fz d else match d with
    | .lst es => Sl.br es
    | d => Sl.fz d) :: startSl ms ds
  | _, _ => []
theorem start_rel {H G : Hp} (s : Same G H) : ∀ {ms : List Bool} {ds : List Dat} {vs : List V}, ArgsR K G H ms ds vs → (startSl ms ds).length = vs.length ∧ ∀ (i : Nat) (t : Sl), (startSl ms ds)[i]? = some t → SlR K H G H t ((vs.map some)[i]?) ∧ ∀ es, t ≠ .ow es
  | [], ds, vs, h => by
    obtain ⟨rfl, rfl⟩ := h
    exact ⟨rfl, fun i t h => by simp [startSl] at h⟩
  | m :: ms, ds, vs, h => by
    obtain ⟨d, e, v, w, rfl, rfl, h3, h4⟩ := h
    obtain ⟨ih1, ih2⟩ := start_rel s h4
    refine ⟨by unfold startSl; rw [List.length_cons, List.length_cons, ih1], fun i t ht => ?_⟩
    cases i with
    | succ i =>
      unfold startSl at ht
      have := ih2 i t (by simpa using ht)
      simpa using this
    | zero =>
      unfold startSl at ht
      simp only [List.getElem?_cons_zero, Option.some.injEq] at ht
      cases m with
      | true =>
        rw [if_pos rfl] at ht
        subst ht
        exact ⟨⟨v, rfl, h3⟩, fun es => fun z => nomatch z⟩
      | false =>
        rw [if_neg Bool.false_ne_true] at ht
        have h3 : RdD K G d v ∨ ∃ l vs es, d = .lst es ∧ v = .ref l ∧ SqL K H l vs ∧ RdL K G es vs := h3
        by_cases hd : ∃ es, d = .lst es
        · obtain ⟨es, rfl⟩ := hd
          subst ht
          refine ⟨?_, fun es => fun z => nomatch z⟩
          rcases h3 with h3 | ⟨l, us, es', a, b, c, f⟩
          · unfold RdD at h3
            obtain ⟨a, us, e1, e2, e3⟩ := h3
            exact ⟨a, us, by rw [e1]; rfl, rd_mono s e2, e3⟩
          · cases a
            exact ⟨l, us, by rw [b]; rfl, c, f⟩
        · have ht' : t = .fz d := by
            rw [← ht]
            cases d with
            | lst es => exact absurd ⟨es, rfl⟩ hd
            | _ => rfl
          subst ht'
          refine ⟨⟨v, rfl, ?_⟩, fun es => fun z => nomatch z⟩
          rcases h3 with h3 | ⟨l, us, es', a, _⟩
          · exact h3
          · exact absurd ⟨es', a⟩ hd
theorem args_len {G H : Hp} : ∀ {ms : List Bool} {ds : List Dat} {vs : List V}, ArgsR K G H ms ds vs → vs.length = ms.length
  | [], ds, vs, h => by
    obtain ⟨rfl, rfl⟩ := h; rfl
  | m :: ms, ds, vs, h => by
    obtain ⟨d, e, v, w, rfl, rfl, h3, h4⟩ := h
    rw [List.length_cons, List.length_cons, args_len h4]
/-- the slots at the entry: n names in all -/
def entry (ms : List Bool) (n : Nat) (ds : List Dat) : List Sl := startSl ms ds ++ List.replicate (n - ms.length) .un
theorem entry_rel {H G : Hp} {ms : List Bool} {ds : List Dat} {vs : List V} {N : List Str} (s : Same G H) (h : ArgsR K G H ms ds vs) : Rel K H G G (entry ms N.length ds) (L2.start N vs) H := by
  obtain ⟨h1, h2⟩ := start_rel s h
  have hl := args_len h
  have at_ : ∀ (i : Nat) (t : Sl), (entry ms N.length ds)[i]? = some t → SlR K H G H t (L2.start N vs)[i]? ∧ ∀ es, t ≠ .ow es := fun i t ht => by
    unfold entry at ht
    unfold L2.start
    by_cases hi : i < (startSl ms ds).length
    · rw [List.getElem?_append_left hi] at ht
      rw [List.getElem?_append_left (by rw [List.length_map, ← h1]; exact hi)]
      exact h2 i t ht
    · rw [List.getElem?_append_right (by omega)] at ht
      rw [List.getElem?_replicate] at ht
      split at ht
      · cases ht; exact ⟨trivial, fun es => fun z => nomatch z⟩
      · exact nomatch ht
  refine ⟨Ext.refl s, ?_, fun i t ht => (at_ i t ht).1, fun i j ds' es l hi hj _ _ => absurd rfl ((at_ i _ hi).2 ds')⟩
  unfold entry L2.start
  rw [List.length_append, List.length_append, List.length_replicate, List.length_replicate, List.length_map, h1, hl]
def endsOf (κ : Rv → Prop) (ε : Str → Prop) : DEnds := { nx := fun _ => κ (.v .non), rt := κ, bk := fun _ => False, ct := fun _ => False, ex := fun nm _ => ε nm }
section
variable {P : Program} {w : World} {K : PySem.W.Frag} {mg : MG} {base : Heap}
/-- what stands around a body -/
abbrev WE0 (E : XK) : WX := fun cls d _ H => E cls d H
theorem fn_dl {x qual : Str} {st : Stmt} {f : Addr} {fd : FuncData} {N ps : List Str} {k : Nat} {ms : List Bool} {S : Fsp} {δ : DS} (F : Fun K x qual st f fd) (sc : FnScope N ps (defScope st)) (hms : ms.length = ps.length)
    (hb : ∀ (cdv : Value) (A : Around) (outer : List Env) (s : Shared) (H : Hp) (E : XK), Cn (cxOf (L2.CX P w) P w K mg base N qual (defScope st) f cdv A outer s H E) (WE0 E) k → MSs (cxOf (L2.CX P w) P w K mg base N qual (defScope st) f cdv A outer s H E) (WE0 E) (defBody st) δ)
    (sem : ∀ ds κ ε, S ds κ ε → δ (endsOf κ ε) (entry ms N.length ds)) : FnOk P w K mg base (L2.CX P w) (k + 1) f fd ps (spOf K mg ms S) := by
  refine F.okX sc (fun vs H Q E ⟨G, ds, _, h, _⟩ => by rw [args_len h, hms]) (fun cdv A outer s H vs Q E hr hsp => ?_)
  obtain ⟨G, ds, s1, h1, κ, ε, hS, hq, hx⟩ := hsp
  have C : Cn (cxOf (L2.CX P w) P w K mg base N qual (defScope st) f cdv A outer s H E) (WE0 E) k := ⟨takes_of rfl rfl rfl rfl, passes_of rfl, rfl, hr, sc.nd⟩
  obtain ⟨t, pt, ot⟩ := hb cdv A outer s H E C
  refine ⟨t, pt, ot H G G _ _ H _ (endsOf κ ε) (entry_rel s1 h1) (sem ds κ ε hS) ?_⟩
  refine ⟨fun ρ σ H' G' R k => ?_, fun _ _ _ _ _ k => k.elim, fun _ _ _ _ _ k => k.elim, fun v H' G' r x hr ok k => hq v H' G' r x hr ok k, fun nm cls ρ σ H' G' R h k => hx nm cls H' G' R.ext h k⟩
  exact hq _ H' G' (.v .non) R.ext (by show RdD K _ _ _; unfold RdD; rfl) rfl k
end
end DL
namespace DL
open PySem PySem.Spec PyProof.Rows L2
variable {K : PySem.W.Frag}

/-! ### built-in functions -/
def OpA (K : PySem.W.Frag) (r : List V → Hp → VK → Prop) (k : List Rv → (Rv → Prop) → Prop) : Prop :=
  ∀ (H0 G Hs H : Hp) (rs : List Rv) (vs : List V) (Q : VK) (κ : Rv → Prop), Same G H → Same H0 H → Same Hs H → RvsR K H0 G Hs H rs vs → k rs κ →
    (∀ w H' G' z, Ext H G H' G' → RvR K H0 G' H H' z w → κ z → Q w H') → r vs H Q
def dB (k : List Rv → (Rv → Prop) → Prop) (a : DA) : DE := fun ρ κ ε => a ρ (fun rs => k rs κ) ε
theorem eok_B {mg : MG} {W : WX} {t : TA} {a : DA} {r : List V → Hp → VK → Prop} {k : List Rv → (Rv → Prop) → Prop} (hr : OpA K r k) (ha : AOk K mg W t a) : EOk K mg W (tCB r t) (dB k a) := by
  intro H0 G0 G ρ σ H Q κ ε R h hq hx
  refine ha H0 G0 G ρ σ H _ _ ε R h (fun vs H1 G1 rs x1 h1 k1 => ?_) hx
  exact hr H0 G1 H H1 rs vs Q κ x1.s (R.on x1).ext.h x1.h h1 k1 fun w H' G' z x2 h2 k2 => hq w H' G' z (x1.trans x2) (h2.back x1.h) k2
section
variable {X : Cx} {W : WX} {x : Str} {p pos : Pos} {e : Expr} {es : List Expr} {da : DA} {id T : String} {r : List V → Hp → VK → Prop} {k : List Rv → (Rv → Prop) → Prop}
theorem me_B (hc : CallR X (.builtin id) r) (hr : OpA X.K r k) (hv : bootBuiltins x = some (.builtin id)) (hm : X.mg x = none) (ha : MA X W (e :: es) da) (hg : Gl X x := by rfl) (hn : x ≠ "__name__" := by decide) (hdb : (x == ("__debug__" : Str)) = false := by decide)
    (he : starEach (e :: es) X.env = (false, eval e X.env) :: starEach es X.env := by rfl) (hpl : (backTo pos (starEach es X.env)).any (·.1) = false := by rfl) : ME X W (.Call (.Name x p) (e :: es) [] pos) (dB k da) := by
  obtain ⟨t, pa, oa⟩ := ha
  exact ⟨_, pe_callB hc hg hm hv pa hn hdb he hpl, eok_B hr oa⟩
theorem me_Ty (hc : CallR X (.type T) r) (hr : OpA X.K r k) (hv : bootBuiltins x = some (.type T)) (hm : X.mg x = none) (ha : MA X W (e :: es) da) (hg : Gl X x := by rfl) (hn : x ≠ "__name__" := by decide) (hdb : (x == ("__debug__" : Str)) = false := by decide)
    (he : starEach (e :: es) X.env = (false, eval e X.env) :: starEach es X.env := by rfl) (hpl : (backTo pos (starEach es X.env)).any (·.1) = false := by rfl) : ME X W (.Call (.Name x p) (e :: es) [] pos) (dB k da) := by
  obtain ⟨t, pa, oa⟩ := ha
  exact ⟨_, pe_callTy hc hg hm hv pa hn hdb he hpl, eok_B hr oa⟩
end
theorem rvs1 {H0 G Hs H : Hp} {x : Rv} {vs : List V} (h : RvsR K H0 G Hs H [x] vs) : ∃ v, vs = [v] ∧ RvR K H0 G Hs H x v := by
  obtain ⟨v, w, rfl, a, b⟩ := h
  have b : w = [] := b
  subst b
  exact ⟨v, rfl, a⟩
theorem rvs2 {H0 G Hs H : Hp} {x y : Rv} {vs : List V} (h : RvsR K H0 G Hs H [x, y] vs) : ∃ v u, vs = [v, u] ∧ RvR K H0 G Hs H x v ∧ RvR K H0 G Hs H y u := by
  obtain ⟨v, w, rfl, a, b⟩ := h
  obtain ⟨u, rfl, c⟩ := rvs1 b
  exact ⟨v, u, rfl, a, c⟩
theorem rvI {H0 G Hs H : Hp} {i : Int} {v : V} (h : RvR K H0 G Hs H (.v (.int i)) v) : v = .int i := by
  have h : RdD K G (.int i) v := h
  unfold RdD at h; exact h
theorem rvB {H0 G Hs H : Hp} {i : Bool} {v : V} (h : RvR K H0 G Hs H (.v (.bl i)) v) : v = .bl i := by
  have h : RdD K G (.bl i) v := h
  unfold RdD at h; exact h
theorem toI {H0 G Hs H : Hp} {i : Int} : RvR K H0 G Hs H (.v (.int i)) (.int i) := by show RdD K _ _ _; unfold RdD; rfl
theorem toB {H0 G Hs H : Hp} {i : Bool} : RvR K H0 G Hs H (.v (.bl i)) (.bl i) := by show RdD K _ _ _; unfold RdD; rfl
/-- a list or a tuple, read -/
theorem rvQ {K : PySem.W.Frag} {H0 G Hs H : Hp} {r : Rv} {v : V} {ds : List Dat} (s : Same G H) (s0 : Same H0 H) (h : RvR K H0 G Hs H r v) (e : r.dat = .lst ds ∨ r.dat = .tup ds) : ∃ l vs, v = .ref l ∧ (SqL K H l vs ∨ SqT K H l vs) ∧ RdL K G ds vs := by
  rcases e with e | e
  · obtain ⟨l, vs, a, b, c⟩ := h.lst s s0 e
    exact ⟨l, vs, a, .inl b, c⟩
  · cases r with
    | v d0 =>
      have e : d0 = .tup ds := e
      subst e
      have h : RdD K G (.tup ds) v := h
      unfold RdD at h
      obtain ⟨l, vs, a, b, c⟩ := h
      exact ⟨l, vs, a, .inr (SqT.of (s _ _ b)), c⟩
    | n _ => exact nomatch e
    | b _ => exact nomatch e
    | o _ => exact nomatch e
def kLen : List Rv → (Rv → Prop) → Prop := fun rs κ => match rs with
  | [x] => asQ x fun ds => κ (.v (.int (ds.length : Int)))
  | _ => False
def kAbs : List Rv → (Rv → Prop) → Prop := fun rs κ => match rs with
  | [x] => asI x fun i => κ (.v (.int (if i < 0 then -i else i)))
  | _ => False
def kMax2 : List Rv → (Rv → Prop) → Prop := fun rs κ => match rs with
  | [x, y] => asI x fun i => asI y fun j => κ (.v (.int (if j > i then j else i)))
  | _ => False
def kMin2 : List Rv → (Rv → Prop) → Prop := fun rs κ => match rs with
  | [x, y] => asI x fun i => asI y fun j => κ (.v (.int (if j < i then j else i)))
  | _ => False
def kInt1 : List Rv → (Rv → Prop) → Prop := fun rs κ => match rs with
  | [.v (.int i)] => κ (.v (.int i))
  | [.v (.bl k)] => κ (.v (.int (if k then 1 else 0)))
  | _ => False
def kList : List Rv → (Rv → Prop) → Prop := fun rs κ => match rs with
  | [x] => asQ x fun ds => κ (.n ds)
  | _ => False
def kDivmod : List Rv → (Rv → Prop) → Prop := fun rs κ => match rs with
  | [x, y] => asI x fun i => asI y fun j => DivP i j ∧ κ (.v (.tup [.int (i / j), .int (i % j)]))
  | _ => False
section
variable {X : Cx}
theorem opa_len {K : PySem.W.Frag} : OpA K (fun xs H Q => ∃ p ys, xs = [.ref p] ∧ (SqL K H p ys ∨ SqT K H p ys) ∧ Q (.int ys.length) H) kLen := by
  intro H0 G Hs H rs vs Q κ s s0 sh h k q
  unfold kLen at k
  split at k
  · obtain ⟨v, rfl, h1⟩ := rvs1 h
    obtain ⟨ds, e, k1⟩ := asQ.of k
    obtain ⟨l, us, rfl, a, b⟩ := rvQ (K := K) s s0 h1 e
    exact ⟨l, us, rfl, a, by rw [← b.len]; exact q _ H G (.v (.int _)) (Ext.refl s) toI k1⟩
  · exact k.elim
theorem opa_list {K : PySem.W.Frag} : OpA K (fun xs H Q => ∃ p ys, xs = [.ref p] ∧ (SqL K H p ys ∨ SqT K H p ys) ∧ ∀ l, H l = none → Q (.ref l) (upd H l (.lst ys))) kList := by
  intro H0 G Hs H rs vs Q κ s s0 sh h k q
  unfold kList at k
  split at k
  · obtain ⟨v, rfl, h1⟩ := rvs1 h
    obtain ⟨ds, e, k1⟩ := asQ.of k
    obtain ⟨l, us, rfl, a, b⟩ := rvQ (K := K) s s0 h1 e
    exact ⟨l, us, rfl, a, fun p np => q _ _ _ (.n ds) (Ext.newH s np) ⟨p, us, rfl, upd_same, b, np, s.free np⟩ k1⟩
  · exact k.elim
theorem opa_abs : OpA K (fun xs H Q => ∃ i, xs = [.int i] ∧ Q (.int (if i < 0 then -i else i)) H) kAbs := by
  intro H0 G Hs H rs vs Q κ s s0 sh h k q
  unfold kAbs at k
  split at k
  · obtain ⟨v, rfl, h1⟩ := rvs1 h
    obtain ⟨i, rfl, k1⟩ := asI.of k
    exact ⟨i, by rw [rvI h1], q _ H G (.v (.int _)) (Ext.refl s) toI k1⟩
  · exact k.elim
theorem opa_max2 : OpA K (fun xs H Q => ∃ i j, xs = [.int i, .int j] ∧ Q (.int (if j > i then j else i)) H) kMax2 := by
  intro H0 G Hs H rs vs Q κ s s0 sh h k q
  unfold kMax2 at k
  split at k
  · obtain ⟨v, u, rfl, h1, h2⟩ := rvs2 h
    obtain ⟨i, rfl, k1⟩ := asI.of k
    obtain ⟨j, rfl, k2⟩ := asI.of k1
    exact ⟨i, j, by rw [rvI h1, rvI h2], q _ H G (.v (.int _)) (Ext.refl s) toI k2⟩
  · exact k.elim
theorem opa_min2 : OpA K (fun xs H Q => ∃ i j, xs = [.int i, .int j] ∧ Q (.int (if j < i then j else i)) H) kMin2 := by
  intro H0 G Hs H rs vs Q κ s s0 sh h k q
  unfold kMin2 at k
  split at k
  · obtain ⟨v, u, rfl, h1, h2⟩ := rvs2 h
    obtain ⟨i, rfl, k1⟩ := asI.of k
    obtain ⟨j, rfl, k2⟩ := asI.of k1
    exact ⟨i, j, by rw [rvI h1, rvI h2], q _ H G (.v (.int _)) (Ext.refl s) toI k2⟩
  · exact k.elim
theorem opa_int1 : OpA K (fun xs H Q => (∃ i, xs = [.int i] ∧ Q (.int i) H) ∨ ∃ k, xs = [.bl k] ∧ Q (.int (if k then 1 else 0)) H) kInt1 := by
  intro H0 G Hs H rs vs Q κ s s0 sh h k q
  unfold kInt1 at k
  split at k
  · rename_i i
    obtain ⟨v, rfl, h1⟩ := rvs1 h
    exact .inl ⟨i, by rw [rvI h1], q _ H G (.v (.int _)) (Ext.refl s) toI k⟩
  · rename_i b
    obtain ⟨v, rfl, h1⟩ := rvs1 h
    exact .inr ⟨b, by rw [rvB h1], q _ H G (.v (.int _)) (Ext.refl s) toI k⟩
  · exact k.elim
theorem opa_divmod : OpA K (fun xs H Q => ∃ i j, xs = [.int i, .int j] ∧ CDivP i j ∧ ∀ p, H p = none → Q (.ref p) (upd H p (.tup [.int (i / j), .int (i % j)]))) kDivmod := by
  intro H0 G Hs H rs vs Q κ s s0 sh h k q
  unfold kDivmod at k
  split at k
  · obtain ⟨v, u, rfl, h1, h2⟩ := rvs2 h
    obtain ⟨i, rfl, k1⟩ := asI.of k
    obtain ⟨j, rfl, k2, k3⟩ := asI.of k1
    refine ⟨i, j, by rw [rvI h1, rvI h2], ⟨k2.1, PyProof.noPylong_of_log2 k2.2⟩, fun p np => ?_⟩
    refine q _ _ _ (.v (.tup _)) (Ext.newG (o := .tup _) s np) ?_ k3
    show RdD K _ _ _
    unfold RdD
    exact ⟨p, _, rfl, upd_same, RdL.cons (by unfold RdD; rfl) (RdL.cons (by unfold RdD; rfl) RdL.nil)⟩
  · exact k.elim
variable {W : WX} {p pos : Pos} {e : Expr} {es : List Expr} {da : DA}
theorem me_len (hm : X.mg "len" = none) (ha : MA X W (e :: es) da) (hg : Gl X "len" := by rfl) (he : starEach (e :: es) X.env = (false, eval e X.env) :: starEach es X.env := by rfl) (hpl : (backTo pos (starEach es X.env)).any (·.1) = false := by rfl) : ME X W (.Call (.Name "len" p) (e :: es) [] pos) (dB kLen da) :=
  me_B call_len_seq opa_len PySem.boot_len hm ha hg (by decide) (by decide) he hpl
theorem me_abs (hm : X.mg "abs" = none) (ha : MA X W (e :: es) da) (hg : Gl X "abs" := by rfl) (he : starEach (e :: es) X.env = (false, eval e X.env) :: starEach es X.env := by rfl) (hpl : (backTo pos (starEach es X.env)).any (·.1) = false := by rfl) : ME X W (.Call (.Name "abs" p) (e :: es) [] pos) (dB kAbs da) :=
  me_B call_abs opa_abs (by decide +kernel) hm ha hg (by decide) (by decide) he hpl
theorem me_max2 (hc : X.calm = true) (hm : X.mg "max" = none) (ha : MA X W (e :: es) da) (hg : Gl X "max" := by rfl) (he : starEach (e :: es) X.env = (false, eval e X.env) :: starEach es X.env := by rfl) (hpl : (backTo pos (starEach es X.env)).any (·.1) = false := by rfl) : ME X W (.Call (.Name "max" p) (e :: es) [] pos) (dB kMax2 da) :=
  me_B (call_max2 hc) opa_max2 (by decide +kernel) hm ha hg (by decide) (by decide) he hpl
theorem me_min2 (hc : X.calm = true) (hm : X.mg "min" = none) (ha : MA X W (e :: es) da) (hg : Gl X "min" := by rfl) (he : starEach (e :: es) X.env = (false, eval e X.env) :: starEach es X.env := by rfl) (hpl : (backTo pos (starEach es X.env)).any (·.1) = false := by rfl) : ME X W (.Call (.Name "min" p) (e :: es) [] pos) (dB kMin2 da) :=
  me_B (call_min2 hc) opa_min2 (by decide +kernel) hm ha hg (by decide) (by decide) he hpl
theorem me_divmod (hm : X.mg "divmod" = none) (ha : MA X W (e :: es) da) (hg : Gl X "divmod" := by rfl) (he : starEach (e :: es) X.env = (false, eval e X.env) :: starEach es X.env := by rfl) (hpl : (backTo pos (starEach es X.env)).any (·.1) = false := by rfl) : ME X W (.Call (.Name "divmod" p) (e :: es) [] pos) (dB kDivmod da) :=
  me_B call_divmodW opa_divmod (by decide +kernel) hm ha hg (by decide) (by decide) he hpl
theorem me_toInt (hm : X.mg "int" = none) (ha : MA X W (e :: es) da) (hg : Gl X "int" := by rfl) (he : starEach (e :: es) X.env = (false, eval e X.env) :: starEach es X.env := by rfl) (hpl : (backTo pos (starEach es X.env)).any (·.1) = false := by rfl) : ME X W (.Call (.Name "int" p) (e :: es) [] pos) (dB kInt1 da) :=
  me_Ty call_int1 opa_int1 (by decide +kernel) hm ha hg (by decide) (by decide) he hpl
theorem me_list (hm : X.mg "list" = none) (ha : MA X W (e :: es) da) (hg : Gl X "list" := by rfl) (he : starEach (e :: es) X.env = (false, eval e X.env) :: starEach es X.env := by rfl) (hpl : (backTo pos (starEach es X.env)).any (·.1) = false := by rfl) : ME X W (.Call (.Name "list" p) (e :: es) [] pos) (dB kList da) :=
  me_Ty call_list_of opa_list (by decide +kernel) hm ha hg (by decide) (by decide) he hpl
end

/-! ### isinstance of built-in types -/
inductive TyN | int | bool | str | list | tuple | dict
def TyN.nm : TyN → String
  | .int => "int" | .bool => "bool" | .str => "str" | .list => "list" | .tuple => "tuple" | .dict => "dict"
def isTy : TyN → Dat → Bool
  | .int, .int _ => true
  | .int, .bl _ => true
  | .bool, .bl _ => true
  | .str, .str _ => true
  | .list, .lst _ => true
  | .tuple, .tup _ => true
  | .dict, .dic _ => true
  | _, _ => false
def tyD : Dat → String
  | .non => "NoneType" | .bl _ => "bool" | .int _ => "int" | .str _ => "str" | .tup _ => "tuple" | .lst _ => "list" | .dic _ => "dict"
inductive Tag | non | bl | int | str | tup | lst | dic
def Tag.of : Dat → Tag
  | .non => .non | .bl _ => .bl | .int _ => .int | .str _ => .str | .tup _ => .tup | .lst _ => .lst | .dic _ => .dic
def Tag.dat : Tag → Dat
  | .non => .non | .bl => .bl true | .int => .int 0 | .str => .str Str.empty | .tup => .tup [] | .lst => .lst [] | .dic => .dic []
theorem kit_tag (T : TyN) (t : Tag) : kitB (tyD t.dat) T.nm = some (isTy T t.dat) := by
  cases T <;> cases t <;> decide +kernel
theorem kit_isTy (T : TyN) (d : Dat) : kitB (tyD d) T.nm = some (isTy T d) := by
  have h := kit_tag T (Tag.of d)
  cases T <;> cases d <;> exact h
theorem rd_ty {K : PySem.W.Frag} {H : Hp} : ∀ (d : Dat) (v : V), RdD K H d v → TyX K H v (.type (tyD d))
  | .non, v, h => by unfold RdD at h; subst h; exact .base .non
  | .bl b, v, h => by unfold RdD at h; subst h; exact .base (.bl b)
  | .int b, v, h => by unfold RdD at h; subst h; exact .base (.int b)
  | .str b, v, h => by unfold RdD at h; subst h; exact .base (.str b)
  | .tup ds, v, h => by
    unfold RdD at h
    obtain ⟨a, vs, rfl, g, _⟩ := h
    exact .base (.tup g)
  | .lst ds, v, h => by
    unfold RdD at h
    obtain ⟨a, vs, rfl, (g | ⟨o, g⟩) | ⟨o, its, n, g, c, _⟩, _⟩ := h
    · exact .base (.lst g)
    · exact .base (.frz g)
    · exact .kList g c
  | .dic ds, v, h => by
    unfold RdD at h
    obtain ⟨a, rfl, g⟩ := h
    exact .base (.dK g)
def dIsi (T : TyN) (a : DE) : DE := fun ρ κ ε => a ρ (fun x => κ (.v (.bl (isTy T x.dat)))) ε
section
variable {X : Cx} {W : WX} {p p2 pos : Pos} {e : Expr} {d : DE}
theorem me_isi (T : TyN) {x : Str} (hv : bootBuiltins x = some (.type T.nm)) (hm : X.mg "isinstance" = none) (hx : X.mg x = none) (h : ME X W e d) (hg : Gl X "isinstance" := by rfl) (hgx : Gl X x := by rfl) (hn : x ≠ "__name__" := by decide) (hdb : (x == ("__debug__" : Str)) = false := by decide)
    (he : starEach [e, .Name x p2] X.env = (false, eval e X.env) :: starEach [.Name x p2] X.env := by rfl) (he2 : starEach [.Name x p2] X.env = (false, eval (.Name x p2) X.env) :: starEach [] X.env := by rfl) (hpl : (backTo pos (starEach [.Name x p2] X.env)).any (·.1) = false := by rfl) :
    ME X W (.Call (.Name "isinstance" p) [e, .Name x p2] [] pos) (dIsi T d) := by
  obtain ⟨t, pa, oa⟩ := h
  refine ⟨_, pe_callB call_isi hg hm PyProof.Rows.boot_isinstance (pa_cons pa (pa_cons (pe_bltn (v := .ty T.nm) hgx hx hv rfl hn hdb) pa_nil he2) he) (by decide) (by decide) he hpl, fun H0 G0 G ρ σ H Q κ ε R h hq hx => ?_⟩
  refine oa H0 G0 G ρ σ H _ _ ε R h (fun v H1 G1 r x1 h1 k1 => ?_) hx
  refine ⟨v, .ty T.nm, .type (tyD r.dat), .type T.nm, isTy T r.dat, rfl, .ty _, rd_ty _ _ (h1.read x1.s (R.on x1).ext.h), kit_ty (kit_isTy T r.dat), ?_⟩
  exact hq _ H1 G1 (.v (.bl _)) x1 toB k1
end
end DL
namespace DL
open PySem PySem.Spec PyProof.Rows L2
variable {K : PySem.W.Frag}

/-- a def of the text that may be called -/
structure Cal (P : Program) (w : World) (K : PySem.W.Frag) (mg : MG) (base : Heap) (j : Nat) (x : Str) (ps : List Str) (ms : List Bool) (S : Fsp) : Prop where
  ex : ∃ f fd, FnOk P w K mg base (L2.CX P w) j f fd ps (spOf K mg ms S) ∧ mg x = some (.ref f) ∧ PySem.W.keepIn K (.ref f) = true ∧ Binds K fd ps []
theorem Cal.mk' {P : Program} {w : World} {K : PySem.W.Frag} {mg : MG} {base : Heap} {j : Nat} {x : Str} {ps : List Str} {ms : List Bool} {S : Fsp} {f : Addr} {fd : FuncData} (F : FnOk P w K mg base (L2.CX P w) j f fd ps (spOf K mg ms S)) (h1 : mg x = some (.ref f)) (h2 : PySem.W.keepIn K (.ref f) = true) (h3 : Binds K fd ps []) : Cal P w K mg base j x ps ms S := ⟨f, fd, F, h1, h2, h3⟩
theorem Cn.blk {X : Cx} {W : WX} {k : Nat} {scope : Scope} {f : BlkT} (C : Cn X W k) : Cn (blkX X scope f) DL.W0 k := ⟨takes0, PassesOwn.never, C.hc, C.hr, C.nd⟩
section
variable {X : Cx} {W : WX} {e : Expr} {es : List Expr} {da : DA} {x : Str} {p pos : Pos} {ps : List Str} {ms : List Bool} {S : Fsp} {k j : Nat}
theorem me_callC (C : Cn X W k) (F : Cal X.prog X.w X.K X.mg X.base j x ps ms S) (ha : MA X W (e :: es) da) (hj : j ≤ k := by decide) (hg : Gl X x := by rfl)
    (hdb : (x == ("__debug__" : Str)) = false := by decide) (he : starEach (e :: es) X.env = (false, eval e X.env) :: starEach es X.env := by rfl) (hpl : (backTo pos (starEach es X.env)).any (·.1) = false := by rfl) :
    ME X W (.Call (.Name x p) (e :: es) [] pos) (dCall ms S da) := by
  obtain ⟨f, fd, F, h1, h2, h3⟩ := F
  exact me_call C F h1 h2 h3 ha hj hg hdb he hpl
end

/-! ### range(a, b, c) -/
theorem itOk_rngC {lo c : Int} {n : Nat} {B G : Hp} : ItOk K (Itc lo c n) ((List.range n).map fun (i : Nat) => Dat.int (lo + (i : Int) * c)) B G := by
  refine ⟨fun i H b g hi => (show i < n by simpa using hi), fun i H b g hi => (show n ≤ i by simpa using hi), fun i H x H' Gc d b g gc hd hy => ?_⟩
  obtain ⟨rfl, rfl⟩ := hy
  refine ⟨Gc, Ext.refl gc, ?_⟩
  rw [List.getElem?_map] at hd
  by_cases hi : i < n
  · rw [List.getElem?_range hi] at hd
    cases hd
    unfold RdD; rfl
  · rw [List.getElem?_eq_none (by simpa using hi)] at hd
    exact nomatch hd
def rngDC (lo c : Int) (n : Nat) : List Dat := (List.range n).map fun (i : Nat) => Dat.int (lo + (i : Int) * c)
def iRng3 (a b c : DE) : DI := fun ρ κ ε => a ρ (fun x => b ρ (fun y => c ρ (fun z => asI x fun i => asI y fun j => asI z fun k => ∃ n, RgC i j k n ∧ κ (rngDC i k n)) ε) ε) ε
section
variable {X : Cx} {W : WX} {tg a b d : Expr} {da db dd : DE} {c : Bool}
theorem mi_rng3 {p pos : Pos} (hm : X.mg "range" = none) (ha : ME X W a da) (hb : ME X W b db) (hd : ME X W d dd) (hg : Gl X "range" := by rfl) (hs : starEach [a, b, d] X.env = (false, eval a X.env) :: starEach [b, d] X.env := by rfl) (hpl : (backTo pos (starEach [b, d] X.env)).any (·.1) = false := by rfl)
    (hs2 : starEach [b, d] X.env = (false, eval b X.env) :: starEach [d] X.env := by rfl) (hs3 : starEach [d] X.env = (false, eval d X.env) :: starEach [] X.env := by rfl) : MI X W c tg (.Call (.Name "range" p) [a, b, d] [] pos) (iRng3 da db dd) := by
  obtain ⟨t, pa, oa⟩ := ha
  obtain ⟨u, pb, ob⟩ := hb
  obtain ⟨w, pd, od⟩ := hd
  refine ⟨_, pi_range3 hg hm (pa_cons pa (pa_cons pb (pa_cons pd pa_nil hs3) hs2) hs) hs hpl, fun H0 G0 G ρ σ H R κ ε RR h hq hx => ?_⟩
  refine oa H0 G0 G ρ σ H _ _ ε RR h (fun v H1 G1 r x1 hr k => ?_) hx
  refine ob H0 G0 G1 ρ σ H1 _ _ ε (RR.on x1) k (fun w H2 G2 z x2 hz k2 => ?_) (hx.on x1)
  refine od H0 G0 G2 ρ σ H2 _ _ ε ((RR.on x1).on x2) k2 (fun w3 H3 G3 z3 x3 hz3 k3 => ?_) ((hx.on x1).on x2)
  obtain ⟨i, rfl, k31⟩ := asI.of k3
  obtain ⟨j, rfl, k32⟩ := asI.of k31
  obtain ⟨l, rfl, n, k4, k5⟩ := asI.of k32
  rw [rvI hr, rvI hz, rvI hz3]
  exact ⟨i, j, l, n, rfl, k4, hq _ H3 G3 _ ((x1.trans x2).trans x3) itOk_rngC k5⟩
end
/-- an upward range's turns -/
def rN (i j c : Int) : Nat := if i < j then ((j - i - 1) / c).toNat + 1 else 0
theorem rgC_up {i j c : Int} (h1 : -(2 ^ 61) ≤ i) (h2 : i < 2 ^ 61) (h3 : -(2 ^ 61) ≤ j) (h4 : j < 2 ^ 61) (hc : 0 < c) (hc2 : c < 1000000) : RgC i j c (rN i j c) := by
  have hs : Builtin.Range.rangeSize i j c = (rN i j c : Int) := by
    unfold Builtin.Range.rangeSize rN
    rw [if_pos hc]
    by_cases h : i < j
    · rw [if_pos h, if_pos h]
      have : 0 ≤ (j - i - 1) / c := Int.ediv_nonneg (by omega) (by omega)
      omega
    · rw [if_neg h, if_neg h]; rfl
  refine ⟨by omega, by omega, ?_, hs⟩
  unfold Builtin.Range.small
  rw [hs]
  simp only [Builtin.Range.rangeFitsLong, Bool.and_eq_true, Bool.or_eq_true, decide_eq_true_eq, beq_iff_eq, if_pos hc]
  have hr : 0 ≤ (rN i j c : Int) ∧ (rN i j c : Int) < 2 ^ 62 := by
    unfold rN
    split
    · rename_i h
      have a1 : (j - i - 1) / c ≤ j - i - 1 := Int.ediv_le_self _ (by omega)
      have a2 : 0 ≤ (j - i - 1) / c := Int.ediv_nonneg (by omega) (by omega)
      omega
    · omega
  refine ⟨⟨⟨⟨by omega, by omega⟩, by omega⟩, by omega⟩, .inr ⟨by omega, by omega⟩⟩
end DL
namespace DL
open PySem PySem.Spec PyProof.Rows L2
variable {K : PySem.W.Frag}

/-! ### exceptions: the classes of the text stand flat under StakeError -/
def exB (a b : Str) : Bool := a == b || b == ("StakeError" : Str)
abbrev veB : List Value := [.type "ValueError", .type "Exception", .type "BaseException", .type "object"]
structure Exn (K : PySem.W.Frag) (C : Addr) : Prop where
  x : PySem.W.excIn K C veB "ValueError.__new__" = true
  k : PySem.W.keepIn K (.ref C) = true
  b : PySem.W.subIn K (.ref C) (.type "BaseException") = some true
  t : PySem.W.typeIn K (.ref C) = some (.type "type")
/-- a class that may be raised -/
def Xr (K : PySem.W.Frag) (mg : MG) (x : Str) : Prop := ∃ C, mg x = some (.ref C) ∧ Exn K C
/-- what an except clause says of a class -/
def Xm (K : PySem.W.Frag) (mg : MG) (a b : Str) (r : Bool) : Prop := ∃ C D, mg a = some (.ref C) ∧ mg b = some (.ref D) ∧ PySem.W.exmOne K (.ref C) (.ref D) = some r
/-- what isinstance says of a caught one -/
def Xi (K : PySem.W.Frag) (mg : MG) (a b : Str) (r : Bool) : Prop := ∃ C, mg a = some (.ref C) ∧ ExcC K C ∧ ((∃ D, mg b = some (.ref D) ∧ PySem.W.keepIn K (.ref D) = true ∧ PySem.W.kitOne K (.ref C) (.ref D) = some r) ∨
  (mg b = none ∧ bootBuiltins b = some (.type "ValueError") ∧ b = ("ValueError" : Str) ∧ PySem.W.kitOne K (.ref C) (.type "ValueError") = some r))
/-- the facts at hand: rows of names -/
structure Xs (K : PySem.W.Frag) (mg : MG) (ms is : List (Str × Str × Bool)) : Prop where
  m : ∀ p ∈ ms, Xm K mg p.1 p.2.1 p.2.2
  i : ∀ p ∈ is, Xi K mg p.1 p.2.1 p.2.2
def look (l : List (Str × Str × Bool)) (a b : Str) : Option Bool := match l with
  | [] => none
  | p :: r => if (p.1 == a && p.2.1 == b) = true then some p.2.2 else look r a b
theorem look_mem {a b : Str} {r : Bool} : ∀ {l : List (Str × Str × Bool)}, look l a b = some r → (a, b, r) ∈ l
  | [], h => nomatch h
  | p :: l, h => by
    unfold look at h
    split at h
    · rename_i e
      rw [Bool.and_eq_true, beq_iff_eq, beq_iff_eq] at e
      injection h with h
      obtain ⟨p1, p2, p3⟩ := p
      obtain ⟨e1, e2⟩ := e
      dsimp only at e1 e2 h
      subst e1 e2 h
      exact List.mem_cons_self
    · exact List.mem_cons_of_mem _ (look_mem h)
def sRaise (nm : Str) : DS := fun κ ρ => κ.ex nm ρ
section
variable {X : Cx} {W : WX}
theorem ms_raise {x m : Str} {j : Nat} {p p2 p3 pos : Pos} (hc : X.calm = true) (tk : Takes X W) (hx : Xr X.K X.mg x) (hg : Gl X x := by rfl) (hdb : (x == ("__debug__" : Str)) = false := by decide) : MS X W (.Raise (some (.Call (.Name x p) [.Constant (.str m) j p2] [] p3)) none pos) (sRaise x) := by
  obtain ⟨C, hm, hC⟩ := hx
  exact ⟨_, ps_raise hc tk (pmk_own PySem.F.excBase_ValueError hC.x hm hC.k (raises_own hC.b hC.t) hg hdb), fun H0 G0 G ρ σ H D κ R h E => E.ex x _ ρ σ H G R hm h⟩
/-- one reading for all the contexts of a try's body -/
theorem try_b {W0 : WX → Prop} {body : List Stmt} {δ : DS} (hb : ∀ (W : WX) (pn : List (Addr × Obj)) (xe : Value → Shared → Prop), Takes (X.tr pn xe) W → PassesOwn (model X.prog X.w) X.A X.env xe → MSs (X.tr pn xe) W body δ) :
    ∃ tb : WX → TS, (∀ (W : WX) (pn : List (Addr × Obj)) (xe : Value → Shared → Prop), Takes (X.tr pn xe) W → PassesOwn (model X.prog X.w) X.A X.env xe → PSs (X.tr pn xe) body (tb W)) ∧ ∀ W, SOk X.K X.mg W (tb W) δ := by
  refine ⟨fun W D σ H => ∀ pn xe t, Takes (X.tr pn xe) W → PassesOwn (model X.prog X.w) X.A X.env xe → PSs (X.tr pn xe) body t → SOk X.K X.mg W t δ → t D σ H, fun W pn xe tk po => ?_, fun W H0 G0 G ρ σ H D κ R h E pn xe t _ _ _ ok => ok H0 G0 G ρ σ H D κ R h E⟩
  obtain ⟨t, pt, ot⟩ := hb W pn xe tk po
  exact ⟨fun pins s σ H D I q => pt.run pins s σ H D I (q pn xe t tk po pt ot)⟩
end
/-- try: body except x: suite -/
def sTry (ms : List (Str × Str × Bool)) (x : Str) (b s : DS) : DS := fun κ ρ => b { κ with ex := fun nm ρ' => onS (look ms nm x) fun r => if r = true then s κ ρ' else κ.ex nm ρ' } ρ
/-- try: body except x as n: suite -/
def sTryAs (ms : List (Str × Str × Bool)) (x : Str) (i : Nat) (b : DS) (s : Addr → Str → DS) : DS := fun κ ρ => b { κ with ex := fun nm ρ' => onS (look ms nm x) fun r => if r = true then ∀ a, s a nm { κ with nx := fun ρ2 => κ.nx (ρ2.set i .un), bk := fun ρ2 => κ.bk (ρ2.set i .un), ct := fun ρ2 => κ.ct (ρ2.set i .un), ex := fun _ _ => False } (ρ'.set i (.adr a)) else κ.ex nm ρ' } ρ
section
variable {X : Cx} {W : WX} {x n : Str} {body suite : List Stmt} {b₀ : Stmt} {np pos pos' : Pos} {db : DS} {ms is : List (Str × Str × Bool)}
theorem EndsOk.w0 {mg : MG} {W : WX} {H0 G0 : Hp} {D : Ends} {κ : DEnds} (E : EndsOk K mg W H0 G0 D κ) : EndsOk K mg DL.W0 H0 G0 D { κ with ex := fun _ _ => False } :=
  ⟨E.nx, E.bk, E.ct, E.rt, fun _ _ _ _ _ _ _ _ k => k⟩
theorem ms_try {ds : DS} (hs : X.stack = X.env :: X.outer) (hf : X.env.frame = some X.env.locals) (tk : Takes X W) (XX : Xs X.K X.mg ms is) (hx : ∃ C, X.mg x = some (.ref C))
    (hb : ∀ (W : WX) (pn : List (Addr × Obj)) (xe : Value → Shared → Prop), Takes (X.tr pn xe) W → PassesOwn (model X.prog X.w) X.A X.env xe → MSs (X.tr pn xe) W body db)
    (hsu : ∀ (a : Addr) (oe : Obj) (pn : List (Addr × Obj)), MSs (X.suite a ((a, oe) :: pn)) DL.W0 (b₀ :: suite) ds)
    (hg : Gl X x := by rfl) (hdb : (x == ("__debug__" : Str)) = false := by decide) :
    MS X W (.Try body [.ExceptHandler (some (.Name x np)) none (b₀ :: suite) pos'] [] [] pos) (sTry ms x db (fun κ ρ => ds { κ with ex := fun _ _ => False } ρ)) := by
  obtain ⟨C, hx⟩ := hx
  obtain ⟨tb, pb, ob⟩ := try_b (W0 := fun _ => True) hb
  refine ⟨_, ps_try_only (tb := tb) (ts := fun a cls d D σ H => ∀ oe pn t, PSs (X.suite a ((a, oe) :: pn)) (b₀ :: suite) t → SOk X.K X.mg DL.W0 t ds → t D σ H) (Wout := W) hs hf ⟨hg, hdb, .inl hx⟩ tk pb (fun a oe cls d pn hz hfl => ?_), fun H0 G0 G ρ σ H D κ R h E => ?_⟩
  · obtain ⟨t, pt, ot⟩ := hsu a oe pn
    exact ⟨fun pins s σ H D I q => pt.run pins s σ H D I (q oe pn t pt ot)⟩
  · refine ob _ H0 G0 G ρ σ H D _ R h ⟨E.nx, E.bk, E.ct, E.rt, fun nm cls ρ' σ' H' G' R' hm k => ?_⟩
    obtain ⟨r, hr, k⟩ := onS.of k
    obtain ⟨C1, D1, e1, e2, e3⟩ := XX.m _ (look_mem hr)
    have e1 : X.mg nm = some (.ref C1) := e1
    have e2 : X.mg x = some (.ref D1) := e2
    rw [hm] at e1
    rw [hx] at e2
    cases e1
    cases e2
    refine ⟨r, e3, fun hr1 a na oe pn t pt ot => ?_, fun hr0 => ?_⟩
    · rw [if_pos hr1] at k
      exact ot H0 G0 G' ρ' σ' H' D _ R' k E.w0
    · rw [if_neg (by rw [hr0]; exact Bool.false_ne_true)] at k
      exact E.ex nm _ ρ' σ' H' G' R' hm k
theorem Rel.adr {H0 G0 G H : Hp} {ρ : List Sl} {σ : L2.St} (R : Rel K H0 G0 G ρ σ H) (i : Nat) (a : Addr) : Rel K H0 G0 G (ρ.set i (.adr a)) (σ.set i (some (.ref a))) H := by
  refine ⟨R.ext, by rw [List.length_set, List.length_set]; exact R.len, fun j t ht => ?_, fun j k ds es l hj hk lj lk => ?_⟩
  · by_cases hij : i = j
    · subst hij
      by_cases hi : i < ρ.length
      · rw [List.getElem?_set_self hi] at ht
        cases ht
        show (σ.set i (some (V.ref a)))[i]? = _
        rw [List.getElem?_set_self (by rw [← R.len]; exact hi)]
      · rw [List.getElem?_eq_none (by rw [List.length_set]; omega)] at ht
        exact nomatch ht
    · rw [List.getElem?_set_ne hij] at ht ⊢
      exact R.sl j t ht
  · have key : ∀ (j : Nat) (ds : List Dat), (ρ.set i (.adr a))[j]? = some (.ow ds) → i ≠ j := fun j ds h e => by
      subst e
      by_cases hi : i < ρ.length
      · rw [List.getElem?_set_self hi] at h; exact nomatch h
      · rw [List.getElem?_eq_none (by rw [List.length_set]; omega)] at h; exact nomatch h
    have a1 := key j ds hj
    have a2 := key k es hk
    rw [List.getElem?_set_ne a1] at hj lj
    rw [List.getElem?_set_ne a2] at hk lk
    exact R.inj j k ds es l hj hk lj lk
theorem Rel.gone {H0 G0 G H : Hp} {ρ : List Sl} {σ : L2.St} (R : Rel K H0 G0 G ρ σ H) (i : Nat) (v : Option V) : Rel K H0 G0 G (ρ.set i .un) (σ.set i v) H := by
  refine R.weak (by rw [List.length_set]) (by rw [List.length_set]) fun j s h => ?_
  by_cases hij : i = j
  · subst hij
    by_cases hi : i < ρ.length
    · rw [List.getElem?_set_self hi] at h; cases h; exact .inl rfl
    · rw [List.getElem?_eq_none (by rw [List.length_set]; omega)] at h; exact nomatch h
  · rw [List.getElem?_set_ne hij] at h ⊢
    exact .inr ⟨h, rfl⟩
theorem ms_tryAs {ds : Addr → Str → DS} (i : Nat) (hs : X.stack = X.env :: X.outer) (hf : X.env.frame = some X.env.locals) (hN : X.N.Nodup) (tk : Takes X W) (XX : Xs X.K X.mg ms is) (hx : ∃ C, X.mg x = some (.ref C))
    (hb : ∀ (W : WX) (pn : List (Addr × Obj)) (xe : Value → Shared → Prop), Takes (X.tr pn xe) W → PassesOwn (model X.prog X.w) X.A X.env xe → MSs (X.tr pn xe) W body db)
    (hsu : ∀ (a : Addr) (oe : Obj) (cls : Value) (nm : Str) (pn : List (Addr × Obj)), Zc cls none oe → (∃ vs, oe.data = .fields vs) → X.mg nm = some cls → MSs (X.suite a ((a, oe) :: pn)) DL.W0 (b₀ :: suite) (ds a nm))
    (hi : X.N[i]? = some n := by rfl) (hln : X.env.kindOf n = some .local := by rfl) (hg : Gl X x := by rfl) (hdb : (x == ("__debug__" : Str)) = false := by decide) :
    MS X W (.Try body [.ExceptHandler (some (.Name x np)) (some n) (b₀ :: suite) pos'] [] [] pos) (sTryAs ms x i db ds) := by
  obtain ⟨C, hx⟩ := hx
  obtain ⟨tb, pb, ob⟩ := try_b (W0 := fun _ => True) hb
  refine ⟨_, ps_try_as (tb := tb) (i := i) (ts := fun a cls d D σ H => ∃ nm, d = none ∧ X.mg nm = some cls ∧ ∀ oe pn t, Zc cls none oe → (∃ vs, oe.data = .fields vs) → PSs (X.suite a ((a, oe) :: pn)) (b₀ :: suite) t → SOk X.K X.mg DL.W0 t (ds a nm) → t D σ H) (Wout := W) hs hf hN hi hln ⟨hg, hdb, .inl hx⟩ tk pb (fun a oe cls d pn hz hfl => ?_), fun H0 G0 G ρ σ H D κ R h E => ?_⟩
  · refine ⟨fun pins s σ H D I q => ?_⟩
    obtain ⟨nm, rfl, hm, q⟩ := q
    obtain ⟨t, pt, ot⟩ := hsu a oe cls nm pn hz hfl hm
    exact pt.run pins s σ H D I (q oe pn t hz hfl pt ot)
  · refine ob _ H0 G0 G ρ σ H D _ R h ⟨E.nx, E.bk, E.ct, E.rt, fun nm cls ρ' σ' H' G' R' hm k => ?_⟩
    obtain ⟨r, hr, k⟩ := onS.of k
    obtain ⟨C1, D1, e1, e2, e3⟩ := XX.m _ (look_mem hr)
    have e1 : X.mg nm = some (.ref C1) := e1
    have e2 : X.mg x = some (.ref D1) := e2
    rw [hm] at e1
    rw [hx] at e2
    cases e1
    cases e2
    refine ⟨r, e3, fun hr1 a na => ⟨nm, rfl, hm, fun oe pn t hz hfl pt ot => ?_⟩, fun hr0 => ?_⟩
    · rw [if_pos hr1] at k
      refine ot H0 G0 G' _ _ H' _ _ (R'.adr i a) (k a) ⟨fun ρ2 σ2 H2 G2 R2 k2 => ?_, fun ρ2 σ2 H2 G2 R2 k2 => ?_, fun ρ2 σ2 H2 G2 R2 k2 => ?_, E.rt, fun _ _ _ _ _ _ _ _ k => k⟩
      · exact E.nx _ _ H2 G2 (R2.gone i none) k2
      · exact E.bk _ _ H2 G2 (R2.gone i none) k2
      · exact E.ct _ _ H2 G2 (R2.gone i none) k2
    · rw [if_neg (by rw [hr0]; exact Bool.false_ne_true)] at k
      exact E.ex nm _ ρ' σ' H' G' R' hm k
end
/-- isinstance(n, y), n the caught one -/
def dIsx (is : List (Str × Str × Bool)) (a : Addr) (nm : Str) (i : Nat) (y : Str) : DE := fun ρ κ _ => ρ[i]? = some (.adr a) ∧ onS (look is nm y) fun r => κ (.v (.bl r))
section
variable {X : Cx} {W : WX} {n y : Str} {ms is : List (Str × Str × Bool)} {p p1 p2 pos : Pos}
theorem me_isx {a : Addr} {oe : Obj} {cls : Value} {nm : Str} {pn : List (Addr × Obj)} (i : Nat) (XX : Xs X.K X.mg ms is) (hz : Zc cls none oe) (hfl : ∃ vs, oe.data = .fields vs) (hm : X.mg nm = some cls) (hI : X.mg "isinstance" = none)
    (hN : X.N[i]? = some n := by rfl) (hv : Vis X.env.scope n := by first | exact Or.inl rfl | exact Or.inr (Or.inl rfl) | exact Or.inr (Or.inr rfl)) (hd : (n == ("__debug__" : Str)) = false := by decide) (hcd : (n == ("__classdict__" : Str)) = false := by decide)
    (hg : Gl X "isinstance" := by rfl) (hgy : Gl X y := by rfl) (hny : y ≠ "__name__" := by decide) (hdy : (y == ("__debug__" : Str)) = false := by decide)
    (he : starEach [.Name n p1, .Name y p2] X.env = (false, eval (.Name n p1) X.env) :: starEach [.Name y p2] X.env := by rfl) (he2 : starEach [.Name y p2] X.env = (false, eval (.Name y p2) X.env) :: starEach [] X.env := by rfl) (hpl : (backTo pos (starEach [.Name y p2] X.env)).any (·.1) = false := by rfl) :
    ME (X.suite a ((a, oe) :: pn)) W (.Call (.Name "isinstance" p) [.Name n p1, .Name y p2] [] pos) (dIsx is a nm i y) := by
  by_cases hex : ∃ r, look is nm y = some r
  · obtain ⟨r, hr⟩ := hex
    obtain ⟨C, e1, xc, hy⟩ := XX.i _ (look_mem hr)
    have e1 : X.mg nm = some (.ref C) := e1
    rw [hm] at e1
    cases e1
    have go : ∀ {vy : V} {cv : Value}, PE (X.suite a ((a, oe) :: pn)) (.Name y p2) (tC vy) → (∀ u, RelV vy u → u = cv) → PySem.W.kitOne X.K (.ref C) cv = some r → ME (X.suite a ((a, oe) :: pn)) W (.Call (.Name "isinstance" p) [.Name n p1, .Name y p2] [] pos) (dIsx is a nm i y) := fun {vy cv} py hcv hk => by
      refine ⟨_, pe_callB (X := X.suite a ((a, oe) :: pn)) (call_isE xc hz hfl) hg hI PyProof.Rows.boot_isinstance (pa_cons (pe_var (X := X.suite a ((a, oe) :: pn)) hN hv hd hcd) (pa_cons py pa_nil he2) he) (by decide) (by decide) he hpl, fun H0 G0 G ρ σ H Q κ ε R h hq hx => ?_⟩
      obtain ⟨h1, h2⟩ := h
      obtain ⟨r', hr', h2⟩ := onS.of h2
      rw [hr] at hr'
      cases hr'
      exact ⟨.ref a, R.sl _ _ h1, vy, cv, r, rfl, hcv, hk, hq _ H G (.v (.bl _)) (Ext.refl R.ext.s) toB h2⟩
    rcases hy with ⟨D, e2, k2, h2⟩ | ⟨e2, bt, ey, h2⟩
    · exact go (vy := .ref D) (pe_glob (X := X.suite a ((a, oe) :: pn)) hgy e2 rfl hdy) (fun u h => h) h2
    · exact go (vy := .ty "ValueError") (pe_bltn (X := X.suite a ((a, oe) :: pn)) (v := .ty "ValueError") hgy e2 bt rfl hny hdy) (fun u h => h) h2
  · refine ⟨fun _ _ _ => False, ⟨fun pins s σ H Q I q => q.elim⟩, fun H0 G0 G ρ σ H Q κ ε R h hq hx => ?_⟩
    obtain ⟨_, h2⟩ := h
    obtain ⟨r, hr, _⟩ := onS.of h2
    exact absurd ⟨r, hr⟩ hex
end
end DL
namespace DL
open PySem PySem.Spec PyProof.Rows L2
variable {K : PySem.W.Frag}

/-! ### sum, min, max of a list of ints -/
def intsD : List Dat → Option (List Int)
  | [] => some []
  | .int i :: ds => (intsD ds).map (i :: ·)
  | _ => none
theorem intsD_map : ∀ ns : List Int, intsD (ns.map Dat.int) = some ns
  | [] => rfl
  | n :: ns => by
    show (intsD (ns.map Dat.int)).map (n :: ·) = _
    rw [intsD_map ns]; rfl
theorem intsD_of : ∀ {ds : List Dat} {ns : List Int}, intsD ds = some ns → ds = ns.map Dat.int
  | [], ns, h => by cases h; rfl
  | d :: ds, ns, h => by
    cases d with
    | int i =>
      have h : (intsD ds).map (i :: ·) = some ns := h
      obtain ⟨r, e, rfl⟩ := Option.map_eq_some_iff.mp h
      rw [intsD_of e]; rfl
    | _ => exact nomatch h
theorem RdL.toInts {G : Hp} : ∀ {ns : List Int} {vs : List V}, RdL K G (ns.map Dat.int) vs → vs = ns.map V.int
  | [], vs, h => by unfold List.map RdL at h; exact h
  | n :: ns, vs, h => by
    unfold List.map RdL at h
    obtain ⟨v, r, rfl, h1, h2⟩ := h
    unfold RdD at h1
    rw [h1, RdL.toInts h2]; rfl
def kSum : List Rv → (Rv → Prop) → Prop := fun rs κ => match rs with
  | [x] => asL x fun ds => onS (intsD ds) fun ns => κ (.v (.int ns.sum))
  | _ => False
def kMax1 : List Rv → (Rv → Prop) → Prop := fun rs κ => match rs with
  | [x] => asL x fun ds => onS (intsD ds) fun ns => onS ns.max? fun m => κ (.v (.int m))
  | _ => False
def kMin1 : List Rv → (Rv → Prop) → Prop := fun rs κ => match rs with
  | [x] => asL x fun ds => onS (intsD ds) fun ns => onS ns.min? fun m => κ (.v (.int m))
  | _ => False
theorem intsQ {H0 G Hs H : Hp} {x : Rv} {v : V} {ds : List Dat} {ns : List Int} (s : Same G H) (s0 : Same H0 H) (h : RvR K H0 G Hs H x v) (e : x.dat = .lst ds) (e2 : intsD ds = some ns) : ∃ l, v = .ref l ∧ SqL K H l (ns.map V.int) := by
  rw [intsD_of e2] at e
  obtain ⟨l, vs, a, b, c⟩ := h.lst s s0 e
  rw [c.toInts] at b
  exact ⟨l, a, b⟩
section
variable {X : Cx} {W : WX} {p pos : Pos} {e : Expr} {es : List Expr} {da : DA}
theorem opa_sum : OpA K (rSum K) kSum := by
  intro H0 G Hs H rs vs Q κ s s0 sh h k q
  unfold kSum at k
  split at k
  · obtain ⟨v, rfl, h1⟩ := rvs1 h
    obtain ⟨ds, e, k1⟩ := asL.of k
    obtain ⟨ns, e2, k2⟩ := onS.of k1
    obtain ⟨l, rfl, b⟩ := intsQ s s0 h1 e e2
    exact ⟨l, ns, rfl, b, q _ H G (.v (.int _)) (Ext.refl s) toI k2⟩
  · exact k.elim
theorem opa_max1 : OpA K (rMax K) kMax1 := by
  intro H0 G Hs H rs vs Q κ s s0 sh h k q
  unfold kMax1 at k
  split at k
  · obtain ⟨v, rfl, h1⟩ := rvs1 h
    obtain ⟨ds, e, k1⟩ := asL.of k
    obtain ⟨ns, e2, k2⟩ := onS.of k1
    obtain ⟨m, e3, k3⟩ := onS.of k2
    obtain ⟨l, rfl, b⟩ := intsQ s s0 h1 e e2
    obtain ⟨a1, a2⟩ := List.max?_eq_some_iff.mp e3
    refine ⟨l, ns, rfl, b, List.length_pos_of_mem a1, fun m' h1 h2 => ?_⟩
    have em : m' = m := Int.le_antisymm (a2 m' h1) (h2 m a1)
    subst em
    exact q _ H G (.v (.int _)) (Ext.refl s) toI k3
  · exact k.elim
theorem opa_min1 : OpA K (rMin K) kMin1 := by
  intro H0 G Hs H rs vs Q κ s s0 sh h k q
  unfold kMin1 at k
  split at k
  · obtain ⟨v, rfl, h1⟩ := rvs1 h
    obtain ⟨ds, e, k1⟩ := asL.of k
    obtain ⟨ns, e2, k2⟩ := onS.of k1
    obtain ⟨m, e3, k3⟩ := onS.of k2
    obtain ⟨l, rfl, b⟩ := intsQ s s0 h1 e e2
    obtain ⟨a1, a2⟩ := List.min?_eq_some_iff.mp e3
    refine ⟨l, ns, rfl, b, List.length_pos_of_mem a1, fun m' h1 h2 => ?_⟩
    have em : m' = m := Int.le_antisymm (h2 m a1) (a2 m' h1)
    subst em
    exact q _ H G (.v (.int _)) (Ext.refl s) toI k3
  · exact k.elim
theorem me_sum (hc : X.calm = true) (hm : X.mg "sum" = none) (ha : MA X W (e :: es) da) (hg : Gl X "sum" := by rfl) (he : starEach (e :: es) X.env = (false, eval e X.env) :: starEach es X.env := by rfl) (hpl : (backTo pos (starEach es X.env)).any (·.1) = false := by rfl) : ME X W (.Call (.Name "sum" p) (e :: es) [] pos) (dB kSum da) :=
  me_B (cr_sum hc) opa_sum (by decide +kernel) hm ha hg (by decide) (by decide) he hpl
theorem me_max1 (hc : X.calm = true) (hm : X.mg "max" = none) (ha : MA X W (e :: es) da) (hg : Gl X "max" := by rfl) (he : starEach (e :: es) X.env = (false, eval e X.env) :: starEach es X.env := by rfl) (hpl : (backTo pos (starEach es X.env)).any (·.1) = false := by rfl) : ME X W (.Call (.Name "max" p) (e :: es) [] pos) (dB kMax1 da) :=
  me_B (cr_max hc) opa_max1 (by decide +kernel) hm ha hg (by decide) (by decide) he hpl
theorem me_min1 (hc : X.calm = true) (hm : X.mg "min" = none) (ha : MA X W (e :: es) da) (hg : Gl X "min" := by rfl) (he : starEach (e :: es) X.env = (false, eval e X.env) :: starEach es X.env := by rfl) (hpl : (backTo pos (starEach es X.env)).any (·.1) = false := by rfl) : ME X W (.Call (.Name "min" p) (e :: es) [] pos) (dB kMin1 da) :=
  me_B (cr_min hc) opa_min1 (by decide +kernel) hm ha hg (by decide) (by decide) he hpl
end

/-! ### in; is None; is True -/
def kIn (neg : Bool) : Rv → Rv → (Rv → Prop) → (Str → Prop) → Prop := fun x y κ _ => asL y fun ds => (shp 64 x.dat = true ∧ shp 64 (.lst ds) = true) ∧ κ (.v (.bl (if neg = true then !(ds.any fun z => eqD z x.dat) else (ds.any fun z => eqD z x.dat))))
theorem any_py {d : Dat} (h : plainD d = true) : ∀ ds : List Dat, plainDL ds = true → (toPyL ds).any (fun z => PyData.eqv z (toPy d)) = ds.any fun z => eqD z d
  | [], _ => by unfold toPyL; rfl
  | x :: xs, p => by
    unfold plainDL at p; rw [Bool.and_eq_true] at p
    unfold toPyL
    rw [List.any_cons, List.any_cons, any_py h xs p.2, eqD_py x d p.1 h]
theorem inD_go {x y : Rv} {v u : V} {ds : List Dat} {H0 G Hs H : Hp} (s : Same G H) (s0 : Same H0 H) (rx : RvR K H0 G Hs H x v) (ry : RvR K H0 G Hs H y u) (e : y.dat = .lst ds) (p1 : shp 64 x.dat = true) (p2 : shp 64 (.lst ds) = true) :
    ∃ d es, Dp K H v d ∧ Dp K H u (.list es) ∧ SeqAt.shaped d = true ∧ SeqAt.shaped (.list es) = true ∧ (es.any fun z => PyData.eqv z d) = ds.any fun z => eqD z x.dat := by
  obtain ⟨q1, q3⟩ := shp_shaped p1
  obtain ⟨q2, q4⟩ := shp_shaped p2
  have ry := ry.read s s0
  rw [e] at ry
  have q2' : plainDL ds = true := by unfold plainD at q2; exact q2
  have et : toPy (.lst ds) = .list (toPyL ds) := by unfold toPy; rfl
  rw [et] at q4
  refine ⟨_, toPyL ds, RdD.dp _ _ q1 (rx.read s s0), ?_, q3, q4, any_py q1 ds q2'⟩
  have := RdD.dp _ _ q2 ry
  rw [et] at this
  exact this
theorem op2_in : Op2 K (rInD K) (kIn false) := by
  intro H0 G Hs H x y v u Q κ ε s s0 sh rx ry h q
  obtain ⟨ds, e, ⟨p1, p2⟩, hk⟩ := asL.of h
  obtain ⟨d, es, a1, a2, a3, a4, a5⟩ := inD_go s s0 rx ry e p1 p2
  refine ⟨d, es, a1, a2, a3, a4, ?_⟩
  rw [a5]
  exact q _ H G (.v (.bl _)) (Ext.refl s) toB hk
theorem op2_notin : Op2 K (rNotInD K) (kIn true) := by
  intro H0 G Hs H x y v u Q κ ε s s0 sh rx ry h q
  obtain ⟨ds, e, ⟨p1, p2⟩, hk⟩ := asL.of h
  obtain ⟨d, es, a1, a2, a3, a4, a5⟩ := inD_go s s0 rx ry e p1 p2
  refine ⟨d, es, a1, a2, a3, a4, ?_⟩
  rw [a5]
  exact q _ H G (.v (.bl _)) (Ext.refl s) toB hk
def isNon : Dat → Bool
  | .non => true
  | _ => false
def kIsN (neg : Bool) : Rv → Rv → (Rv → Prop) → (Str → Prop) → Prop := fun x _ κ _ => κ (.v (.bl (if neg = true then !isNon x.dat else isNon x.dat)))
theorem rd_non {G : Hp} {d : Dat} {v : V} (h : RdD K G d v) : decide (v = .non) = isNon d := by
  cases d with
  | non => unfold RdD at h; subst h; rfl
  | bl b => unfold RdD at h; subst h; rfl
  | int b => unfold RdD at h; subst h; rfl
  | str b => unfold RdD at h; subst h; rfl
  | tup b => unfold RdD at h; obtain ⟨a, vs, rfl, _⟩ := h; rfl
  | lst b => unfold RdD at h; obtain ⟨a, vs, rfl, _⟩ := h; rfl
  | dic b => unfold RdD at h; obtain ⟨a, rfl, _⟩ := h; rfl
def kIsB (neg : Bool) : Rv → Rv → (Rv → Prop) → (Str → Prop) → Prop := fun x y κ _ => asB x fun a => asB y fun b => κ (.v (.bl (if neg = true then !decide (a = b) else decide (a = b))))
theorem op2_isB : Op2 K rIsB (kIsB false) := by
  intro H0 G Hs H x y v u Q κ ε s s0 sh rx ry h q
  obtain ⟨a, rfl, h1⟩ := asB.of h
  obtain ⟨b, rfl, hk⟩ := asB.of h1
  exact ⟨a, b, rvB rx, rvB ry, q _ H G (.v (.bl _)) (Ext.refl s) toB hk⟩
theorem op2_isnB : Op2 K rNotB (kIsB true) := by
  intro H0 G Hs H x y v u Q κ ε s s0 sh rx ry h q
  obtain ⟨a, rfl, h1⟩ := asB.of h
  obtain ⟨b, rfl, hk⟩ := asB.of h1
  exact ⟨a, b, rvB rx, rvB ry, q _ H G (.v (.bl _)) (Ext.refl s) toB hk⟩
def dIn (neg : Bool) := dBin (kIn neg)
def dIsN (neg : Bool) (a : DE) : DE := dBin (kIsN neg) a (dC .non)
def dIsB (neg : Bool) (b : Bool) (a : DE) : DE := dBin (kIsB neg) a (dC (.bl b))
def rIsN1 (K : PySem.W.Frag) : R2 := fun x y H Q => y = .non ∧ Q (.bl (decide (x = .non))) H
section
variable {X : Cx} {W : WX} {a b : Expr} {da db : DE} {pos p2 : Pos} {j : Nat}
theorem op2_isN {neg : Bool} (f : Bool → Bool) (hf : ∀ c, f c = if neg = true then !c else c) : ∀ (H0 G Hs H : Hp) (x y : Rv) (v u : V) (Q : VK) (κ : Rv → Prop) (ε : Str → Prop), Same G H → Same H0 H → Same Hs H → RvR K H0 G Hs H x v → y = .v .non → RvR K H0 G Hs H y u → kIsN neg x y κ ε →
    (∀ w H' G' z, Ext H G H' G' → RvR K H0 G' H H' z w → κ z → Q w H') → u = .non ∧ Q (.bl (f (decide (v = .non)))) H := by
  intro H0 G Hs H x y v u Q κ ε s s0 sh rx ey ry h q
  subst ey
  have ry : RdD K G .non u := ry
  unfold RdD at ry
  refine ⟨ry, ?_⟩
  rw [hf, rd_non (rx.read s s0)]
  exact q _ H G (.v (.bl _)) (Ext.refl s) toB h
theorem me_isN (ha : ME X W a da) : ME X W (.Compare a [.Is] [.Constant .none j p2] pos) (dIsN false da) := by
  obtain ⟨ta, pa, oa⟩ := ha
  refine ⟨_, pe_cmpR op_isN pa pe_non (nomark _), fun H0 G0 G ρ σ H Q κ ε R h hq hx => ?_⟩
  refine oa H0 G0 G ρ σ H _ _ ε R h (fun v H1 G1 x e1 r1 h1 => ?_) hx
  have R1 := R.on e1
  exact op2_isN (neg := false) id (fun c => rfl) H0 G1 H H1 x (.v .non) v .non Q κ ε e1.s R1.ext.h e1.h r1 rfl (by show RdD X.K _ _ _; unfold RdD; rfl) h1 fun w H' G' z e3 r3 h3 => hq w H' G' z (e1.trans e3) (r3.back e1.h) h3
theorem me_isNn (ha : ME X W a da) : ME X W (.Compare a [.IsNot] [.Constant .none j p2] pos) (dIsN true da) := by
  obtain ⟨ta, pa, oa⟩ := ha
  refine ⟨_, pe_cmpR op_notN pa pe_non (nomark _), fun H0 G0 G ρ σ H Q κ ε R h hq hx => ?_⟩
  refine oa H0 G0 G ρ σ H _ _ ε R h (fun v H1 G1 x e1 r1 h1 => ?_) hx
  have R1 := R.on e1
  exact op2_isN (neg := true) (fun c => !c) (fun c => rfl) H0 G1 H H1 x (.v .non) v .non Q κ ε e1.s R1.ext.h e1.h r1 rfl (by show RdD X.K _ _ _; unfold RdD; rfl) h1 fun w H' G' z e3 r3 h3 => hq w H' G' z (e1.trans e3) (r3.back e1.h) h3
theorem mt_isN (ha : ME X W a da) : MT X W (.Compare a [.Is] [.Constant .none j p2] pos) (tVal (dIsN false da)) := by
  obtain ⟨ta, pa, oa⟩ := ha
  refine ⟨_, pt_cmpR op_isN pa pe_non (nomark _), tok_val fun H0 G0 G ρ σ H Q κ ε R h hq hx => ?_⟩
  refine oa H0 G0 G ρ σ H _ _ ε R h (fun v H1 G1 x e1 r1 h1 => ?_) hx
  have R1 := R.on e1
  exact op2_isN (neg := false) id (fun c => rfl) H0 G1 H H1 x (.v .non) v .non Q κ ε e1.s R1.ext.h e1.h r1 rfl (by show RdD X.K _ _ _; unfold RdD; rfl) h1 fun w H' G' z e3 r3 h3 => hq w H' G' z (e1.trans e3) (r3.back e1.h) h3
theorem mt_isNn (ha : ME X W a da) : MT X W (.Compare a [.IsNot] [.Constant .none j p2] pos) (tVal (dIsN true da)) := by
  obtain ⟨ta, pa, oa⟩ := ha
  refine ⟨_, pt_cmpR op_notN pa pe_non (nomark _), tok_val fun H0 G0 G ρ σ H Q κ ε R h hq hx => ?_⟩
  refine oa H0 G0 G ρ σ H _ _ ε R h (fun v H1 G1 x e1 r1 h1 => ?_) hx
  have R1 := R.on e1
  exact op2_isN (neg := true) (fun c => !c) (fun c => rfl) H0 G1 H H1 x (.v .non) v .non Q κ ε e1.s R1.ext.h e1.h r1 rfl (by show RdD X.K _ _ _; unfold RdD; rfl) h1 fun w H' G' z e3 r3 h3 => hq w H' G' z (e1.trans e3) (r3.back e1.h) h3
theorem me_isB {c : Bool} (ha : ME X W a da) : ME X W (.Compare a [.Is] [.Constant (.bool c) j p2] pos) (dIsB false c da) := me_cmp op_isBl op2_isB ha me_bl (nomark _)
theorem me_isBn {c : Bool} (ha : ME X W a da) : ME X W (.Compare a [.IsNot] [.Constant (.bool c) j p2] pos) (dIsB true c da) := me_cmp op_notBl op2_isnB ha me_bl (nomark _)
theorem mt_isB {c : Bool} (ha : ME X W a da) : MT X W (.Compare a [.Is] [.Constant (.bool c) j p2] pos) (tVal (dIsB false c da)) := mt_cmp op_isBl op2_isB ha me_bl (nomark _)
theorem mt_isBn {c : Bool} (ha : ME X W a da) : MT X W (.Compare a [.IsNot] [.Constant (.bool c) j p2] pos) (tVal (dIsB true c da)) := mt_cmp op_notBl op2_isnB ha me_bl (nomark _)
theorem me_in (hu : X.A.units + 65 < cLine) (ha : ME X W a da) (hb : ME X W b db) (hm : behindInMarks .In b = false := by rfl) : ME X W (.Compare a [.In] [b] pos) (dIn false da db) := me_cmp (op_inD hu) op2_in ha hb hm
theorem me_notin (hu : X.A.units + 65 < cLine) (ha : ME X W a da) (hb : ME X W b db) (hm : behindInMarks .NotIn b = false := by rfl) : ME X W (.Compare a [.NotIn] [b] pos) (dIn true da db) := me_cmp (op_notInD hu) op2_notin ha hb hm
theorem mt_in (hu : X.A.units + 65 < cLine) (ha : ME X W a da) (hb : ME X W b db) (hm : behindInMarks .In b = false := by rfl) : MT X W (.Compare a [.In] [b] pos) (tVal (dIn false da db)) := mt_cmp (op_inD hu) op2_in ha hb hm
theorem mt_notin (hu : X.A.units + 65 < cLine) (ha : ME X W a da) (hb : ME X W b db) (hm : behindInMarks .NotIn b = false := by rfl) : MT X W (.Compare a [.NotIn] [b] pos) (tVal (dIn true da db)) := mt_cmp (op_notInD hu) op2_notin ha hb hm
end
end DL
namespace DL
open PySem PySem.Spec PyProof.Rows L2
variable {K : PySem.W.Frag}

/-! ### order of data -/
/-- comparable -/
def cmpO (a b : Dat) : Bool := shp 64 a && shp 64 b && PySem.W.alike (toPy a) (toPy b) && !isNon a
def ltD (a b : Dat) : Bool := PySem.W.dataLt (toPy a) (toPy b)
theorem cmpO_ok {a b : Dat} (h : cmpO a b = true) : plainD a = true ∧ plainD b = true ∧ PySem.W.alike (toPy a) (toPy b) = true ∧ toPy a ≠ .none ∧ (toPy a).depth ≤ 64 := by
  unfold cmpO at h
  rw [Bool.and_eq_true, Bool.and_eq_true, Bool.and_eq_true] at h
  obtain ⟨⟨⟨h1, h2⟩, h3⟩, h4⟩ := h
  obtain ⟨a1, a2, a3⟩ := shp_ok 64 a h1
  obtain ⟨b1, b2, b3⟩ := shp_ok 64 b h2
  refine ⟨a1, b1, h3, fun z => ?_, a3⟩
  cases a with
  | non => exact nomatch h4
  | dic kvs => unfold plainD at a1; exact nomatch a1
  | _ => unfold toPy at z; exact nomatch z
def rCmpD (K : PySem.W.Frag) (f : PyData → PyData → Bool) : R2 := fun x y H Q => ∃ d e, Dp K H x d ∧ Dp K H y e ∧ PySem.W.alike d e = true ∧ d ≠ .none ∧ d.depth ≤ 64 ∧ Q (.bl (f d e)) H
section
variable {X : Cx}
theorem op_ltD (hu : X.A.units + 64 < cLine) : OpR X (compareOp .Lt) (rCmpD X.K fun d e => PySem.W.dataLt d e) := by
  intro pins s σ H x y v u Q I rx ry ⟨d, e, hd, he, a1, a2, a3, q⟩
  obtain ⟨as, r1⟩ := Dp.reads I d x v hd rx
  obtain ⟨bs, r2⟩ := Dp.reads I e y u he ry
  exact PySem.W.lt_data r1 r2 a1 a2 (by have := Nat.min_le_left d.depth e.depth; omega) ⟨.bl _, H, I, rfl, q⟩
theorem op_gtD (hu : X.A.units + 64 < cLine) : OpR X (compareOp .Gt) (rCmpD X.K fun d e => PySem.W.dataLt e d) := by
  intro pins s σ H x y v u Q I rx ry ⟨d, e, hd, he, a1, a2, a3, q⟩
  obtain ⟨as, r1⟩ := Dp.reads I d x v hd rx
  obtain ⟨bs, r2⟩ := Dp.reads I e y u he ry
  exact PySem.W.gt_data r1 r2 a1 a2 (by have := Nat.min_le_left d.depth e.depth; omega) ⟨.bl _, H, I, rfl, q⟩
theorem op_leD (hu : X.A.units + 64 < cLine) : OpR X (compareOp .LtE) (rCmpD X.K fun d e => !PySem.W.dataLt e d) := by
  intro pins s σ H x y v u Q I rx ry ⟨d, e, hd, he, a1, a2, a3, q⟩
  obtain ⟨as, r1⟩ := Dp.reads I d x v hd rx
  obtain ⟨bs, r2⟩ := Dp.reads I e y u he ry
  exact PySem.W.le_data r1 r2 a1 a2 (by have := Nat.min_le_left d.depth e.depth; omega) ⟨.bl _, H, I, rfl, q⟩
theorem op_geD (hu : X.A.units + 64 < cLine) : OpR X (compareOp .GtE) (rCmpD X.K fun d e => !PySem.W.dataLt d e) := by
  intro pins s σ H x y v u Q I rx ry ⟨d, e, hd, he, a1, a2, a3, q⟩
  obtain ⟨as, r1⟩ := Dp.reads I d x v hd rx
  obtain ⟨bs, r2⟩ := Dp.reads I e y u he ry
  exact PySem.W.ge_data r1 r2 a1 a2 (by have := Nat.min_le_left d.depth e.depth; omega) ⟨.bl _, H, I, rfl, q⟩
end
def kCmp (g : Dat → Dat → Bool) : Rv → Rv → (Rv → Prop) → (Str → Prop) → Prop := fun x y κ _ => cmpO x.dat y.dat = true ∧ κ (.v (.bl (g x.dat y.dat)))
theorem op2_cmp {f : PyData → PyData → Bool} {g : Dat → Dat → Bool} (hfg : ∀ a b, g a b = f (toPy a) (toPy b)) : Op2 K (rCmpD K f) (kCmp g) := by
  intro H0 G Hs H x y v u Q κ ε s s0 sh rx ry h q
  obtain ⟨h1, hk⟩ := h
  obtain ⟨p1, p2, p3, p4, p5⟩ := cmpO_ok h1
  refine ⟨_, _, RdD.dp _ _ p1 (rx.read s s0), RdD.dp _ _ p2 (ry.read s s0), p3, p4, p5, ?_⟩
  rw [← hfg]
  exact q _ H G (.v (.bl _)) (Ext.refl s) toB hk
def dLtT := dBin (kCmp fun a b => ltD a b)
def dGtT := dBin (kCmp fun a b => ltD b a)
def dLeT := dBin (kCmp fun a b => !ltD b a)
def dGeT := dBin (kCmp fun a b => !ltD a b)
section
variable {X : Cx} {W : WX} {a b : Expr} {da db : DE} {pos : Pos}
theorem me_ltT (hu : X.A.units + 64 < cLine) (ha : ME X W a da) (hb : ME X W b db) : ME X W (.Compare a [.Lt] [b] pos) (dLtT da db) := me_cmp (op_ltD hu) (op2_cmp fun _ _ => rfl) ha hb (nomark _)
theorem me_gtT (hu : X.A.units + 64 < cLine) (ha : ME X W a da) (hb : ME X W b db) : ME X W (.Compare a [.Gt] [b] pos) (dGtT da db) := me_cmp (op_gtD hu) (op2_cmp fun _ _ => rfl) ha hb (nomark _)
theorem me_leT (hu : X.A.units + 64 < cLine) (ha : ME X W a da) (hb : ME X W b db) : ME X W (.Compare a [.LtE] [b] pos) (dLeT da db) := me_cmp (op_leD hu) (op2_cmp fun _ _ => rfl) ha hb (nomark _)
theorem me_geT (hu : X.A.units + 64 < cLine) (ha : ME X W a da) (hb : ME X W b db) : ME X W (.Compare a [.GtE] [b] pos) (dGeT da db) := me_cmp (op_geD hu) (op2_cmp fun _ _ => rfl) ha hb (nomark _)
theorem mt_ltT (hu : X.A.units + 64 < cLine) (ha : ME X W a da) (hb : ME X W b db) : MT X W (.Compare a [.Lt] [b] pos) (tVal (dLtT da db)) := mt_cmp (op_ltD hu) (op2_cmp fun _ _ => rfl) ha hb (nomark _)
theorem mt_gtT (hu : X.A.units + 64 < cLine) (ha : ME X W a da) (hb : ME X W b db) : MT X W (.Compare a [.Gt] [b] pos) (tVal (dGtT da db)) := mt_cmp (op_gtD hu) (op2_cmp fun _ _ => rfl) ha hb (nomark _)
theorem mt_leT (hu : X.A.units + 64 < cLine) (ha : ME X W a da) (hb : ME X W b db) : MT X W (.Compare a [.LtE] [b] pos) (tVal (dLeT da db)) := mt_cmp (op_leD hu) (op2_cmp fun _ _ => rfl) ha hb (nomark _)
theorem mt_geT (hu : X.A.units + 64 < cLine) (ha : ME X W a da) (hb : ME X W b db) : MT X W (.Compare a [.GtE] [b] pos) (tVal (dGeT da db)) := mt_cmp (op_geD hu) (op2_cmp fun _ _ => rfl) ha hb (nomark _)
end

/-! ### sorted, min, max of a list of data -/
/-- such that they can be put in order -/
structure SrtOk (ds : List Dat) : Prop where
  sh : shpL 63 ds = true
  al : PySem.W.AllAlike (toPyL ds)
  so : PySem.W.Sortable (toPyL ds)
theorem toPyL_map : ∀ ds : List Dat, toPyL ds = ds.map toPy
  | [] => by unfold toPyL; rfl
  | d :: ds => by unfold toPyL; rw [toPyL_map ds]; rfl
theorem shpL_mem {n : Nat} : ∀ {ds : List Dat}, shpL n ds = true → ∀ d ∈ ds, shp n d = true
  | [], _, _, h => nomatch h
  | x :: xs, h, d, hm => by
    unfold shpL at h
    rw [Bool.and_eq_true] at h
    rcases List.mem_cons.mp hm with e | hm
    · rw [e]; exact h.1
    · exact shpL_mem h.2 d hm
def sortD (ds : List Dat) : List Dat := ds.mergeSort fun a b => !ltD b a
def rSortD (K : PySem.W.Frag) : List V → Hp → VK → Prop := fun vs H Q => ∃ (a : Addr) (ds : List Dat) (xs : List V), vs = [V.ref a] ∧ SqL K H a xs ∧ RdL K H ds xs ∧ SrtOk ds ∧
  ∀ (ys : List V) (p : Addr), (∀ G, RdL K G ds xs → RdL K G (sortD ds) ys) → H p = none → Q (.ref p) (upd H p (.lst ys))
theorem each_vals {us : List Value} {α : Type} {f : α → V} : ∀ {bs : List α}, PySem.W.EachIs (fun (u : Value) (b : α) => RelV (f b) u) us bs → Vals (bs.map f) us := by
  intro bs h
  induction h with
  | nil => exact .nil
  | cons r _ ih => exact .cons r ih
theorem each_of : ∀ {xs : List V} {us : List Value} {ds : List Dat}, Vals xs us → ds.length = xs.length → PySem.W.EachIs (fun (u : Value) (b : Dat × V) => RelV b.2 u) us (ds.zip xs)
  | [], _, ds, .nil, e => by
    cases ds with
    | nil => exact .nil
    | cons d ds => exact nomatch e
  | x :: xs, _, ds, .cons r t, e => by
    cases ds with
    | nil => exact nomatch e
    | cons d ds => exact .cons r (each_of t (Nat.succ.inj e))
theorem RdL.zip {G : Hp} : ∀ {ds : List Dat} {xs : List V}, RdL K G ds xs → ∀ p ∈ ds.zip xs, RdD K G p.1 p.2
  | [], xs, h, p, hp => by simp at hp
  | d :: ds, xs, h, p, hp => by
    unfold RdL at h
    obtain ⟨v, r, rfl, h1, h2⟩ := h
    rw [List.zip_cons_cons] at hp
    rcases List.mem_cons.mp hp with e | hp
    · rw [e]; exact h1
    · exact RdL.zip h2 p hp
theorem RdL.of_pairs {G : Hp} : ∀ {ps : List (Dat × V)}, (∀ p ∈ ps, RdD K G p.1 p.2) → RdL K G (ps.map (·.1)) (ps.map (·.2))
  | [], _ => RdL.nil
  | p :: ps, h => RdL.cons (h p List.mem_cons_self) (RdL.of_pairs fun q hq => h q (List.mem_cons_of_mem _ hq))
theorem zip_fst {α β : Type} : ∀ {xs : List α} {ys : List β}, xs.length = ys.length → (xs.zip ys).map (·.1) = xs
  | [], _, _ => by simp
  | x :: xs, [], h => nomatch h
  | x :: xs, y :: ys, h => by rw [List.zip_cons_cons, List.map_cons, zip_fst (Nat.succ.inj h)]
theorem zip_snd {α β : Type} : ∀ {xs : List α} {ys : List β}, xs.length = ys.length → (xs.zip ys).map (·.2) = ys
  | [], [], _ => rfl
  | [], _ :: _, h => nomatch h
  | x :: xs, [], h => nomatch h
  | x :: xs, y :: ys, h => by rw [List.zip_cons_cons, List.map_cons, zip_snd (Nat.succ.inj h)]
theorem SrtOk.ok {ds : List Dat} (h : SrtOk ds) : ∀ d ∈ ds, plainD d = true ∧ (toPy d).depth ≤ 63 := fun d hd => by
  obtain ⟨a, b, c⟩ := shp_ok 63 d (shpL_mem h.sh d hd)
  exact ⟨a, c⟩
theorem cr_sortD {X : Cx} (hu : X.A.units + 66 < cLine) : CallR X (.builtin "sorted") (rSortD X.K) := by
  intro pins s σ H vs us Q I r h
  obtain ⟨a, ds, xs, rfl, hs, hr, ok, q⟩ := h
  obtain ⟨its, rv, hl, hz⟩ := I.list hs
  rw [Vals.ref1 r]
  have hlen := hr.len
  have ef : (ds.zip xs).map (fun b => toPy b.1) = toPyL ds := by
    have e0 : (ds.zip xs).map (fun b => toPy b.1) = ((ds.zip xs).map (·.1)).map toPy := by rw [List.map_map]; rfl
    rw [toPyL_map, e0, zip_fst hlen]
  have e1 := each_of (ds := ds) rv hlen
  have e2 : PySem.W.EachIs (fun (v : Value) (b : Dat × V) => ∃ as, Reads s.heap v (toPy b.1) as) its (ds.zip xs) := by
    have key : ∀ {us : List Value} {bs : List (Dat × V)}, PySem.W.EachIs (fun (u : Value) (b : Dat × V) => RelV b.2 u) us bs → (∀ b ∈ bs, RdD X.K H b.1 b.2 ∧ plainD b.1 = true) → PySem.W.EachIs (fun (v : Value) (b : Dat × V) => ∃ as, Reads s.heap v (toPy b.1) as) us bs := by
      intro us bs h
      induction h with
      | nil => intro _; exact .nil
      | cons r _ ih =>
        intro hb
        obtain ⟨b1, b2⟩ := hb _ List.mem_cons_self
        exact .cons (Dp.reads I _ _ _ (RdD.dp _ _ b2 b1) r) (ih fun b hm => hb b (List.mem_cons_of_mem _ hm))
    refine key e1 fun b hb => ⟨hr.zip b hb, (ok.ok b.1 ?_).1⟩
    exact (List.of_mem_zip (a := b.1) (b := b.2) hb).1
  have hlz : (ds.zip xs).length ≤ sizeLine := by rw [List.length_zip, hlen, Nat.min_self]; exact hz
  refine PySem.W.sorted_data (enc := fun b : Dat × V => toPy b.1) hl.isList e1 e2 (by rw [ef]; exact ok.al) (by rw [ef]; exact ok.so) hlz (fun b hb => ?_) fun out ho h2 => ?_
  · have := (ok.ok b.1 (List.of_mem_zip (a := b.1) (b := b.2) hb).1).2
    show X.A.units + 2 + (toPy b.1).depth < cLine
    omega
  · obtain ⟨ep, he'⟩ := PyProof.Rows.sortedAll_at s.heap its out.toArray
    have hv := each_vals h2
    generalize hS : (ds.zip xs).mergeSort (PySem.W.dataLe false fun b : Dat × V => toPy b.1) = S at h2 hv
    have em : S.map (·.1) = sortD ds := by
      rw [← hS]
      unfold sortD
      have e0 := List.map_mergeSort (l := ds.zip xs) (r := PySem.W.dataLe false fun b : Dat × V => toPy b.1) (s := fun a b => !ltD b a) (f := fun p : Dat × V => p.1) (fun a _ b _ => rfl)
      rw [zip_fst hlen] at e0
      exact e0
    have hp : ∀ p ∈ S, p ∈ ds.zip xs := fun p hm => by rw [← hS] at hm; exact (List.mem_mergeSort).mp hm
    have hl2 : (S.map (·.2)).length ≤ sizeLine := by rw [List.length_map, ← hS, List.length_mergeSort]; exact hlz
    refine ⟨.ref _, upd H (s.heap.objs.size + 1) (.lst (S.map (·.2))), I.laid (t' := s.toks) (fun _ _ => PyProof.Rows.sortedAll_old) (Nat.le_succ _) ⟨hl2, out, ep, hv, he'⟩, rfl, q _ _ (fun G hG => ?_) (I.hok.fresh (Nat.le_succ _))⟩
    rw [← em]
    exact RdL.of_pairs fun p hm => hG.zip p (hp p hm)
def kSort : List Rv → (Rv → Prop) → Prop := fun rs κ => match rs with
  | [x] => asL x fun ds => SrtOk ds ∧ κ (.n (sortD ds))
  | _ => False
theorem opa_sort : OpA K (rSortD K) kSort := by
  intro H0 G Hs H rs vs Q κ s s0 sh h k q
  unfold kSort at k
  split at k
  · obtain ⟨v, rfl, h1⟩ := rvs1 h
    obtain ⟨ds, e, ok, k1⟩ := asL.of k
    obtain ⟨l, us, rfl, b, c⟩ := h1.lst s s0 e
    refine ⟨l, ds, us, rfl, b, c.mono s, ok, fun ys p hy np => ?_⟩
    exact q _ _ _ (.n (sortD ds)) (Ext.newH s np) ⟨p, ys, rfl, upd_same, hy G c, np, s.free np⟩ k1
  · exact k.elim
def dSorted (a : DE) : DE := dB kSort (aCons a aNil)
/-- min, max of a list of data: the first of the least, of the greatest -/
def minO (d : Dat) (ds : List Dat) : Dat := ds.foldl (fun a y => if ltD y a = true then y else a) d
def maxO (d : Dat) (ds : List Dat) : Dat := ds.foldl (fun a y => if ltD a y = true then y else a) d
theorem minO_py (d : Dat) (ds : List Dat) : PySem.W.minD (toPy d) (toPyL ds) = toPy (minO d ds) := by
  unfold PySem.W.minD minO
  rw [toPyL_map, List.foldl_map]
  induction ds generalizing d with
  | nil => rfl
  | cons x xs ih =>
    rw [List.foldl_cons, List.foldl_cons, ← ih]
    congr 1
    unfold ltD
    split <;> rfl
theorem maxO_py (d : Dat) (ds : List Dat) : PySem.W.maxD (toPy d) (toPyL ds) = toPy (maxO d ds) := by
  unfold PySem.W.maxD maxO
  rw [toPyL_map, List.foldl_map]
  induction ds generalizing d with
  | nil => rfl
  | cons x xs ih =>
    rw [List.foldl_cons, List.foldl_cons, ← ih]
    congr 1
    unfold ltD
    split <;> rfl
theorem getD_py (ds : List Dat) (i : Nat) : (toPyL ds).getD i .none = toPy (ds.getD i .non) := by
  rw [toPyL_map, List.getD_eq_getElem?_getD, List.getD_eq_getElem?_getD, List.getElem?_map]
  cases ds[i]? with
  | none => unfold toPy; rfl
  | some d => rfl
/-- such that any two of them can be compared -/
structure AlkOk (ds : List Dat) : Prop where
  sh : shpL 63 ds = true
  al : PySem.W.AlikeAll (toPyL ds)
def rMmD (K : PySem.W.Frag) (m : Dat → List Dat → Dat) : List V → Hp → VK → Prop := fun vs H Q => ∃ (a : Addr) (d : Dat) (ds : List Dat) (xs : List V), vs = [V.ref a] ∧ SqL K H a xs ∧ RdL K H (d :: ds) xs ∧ AlkOk (d :: ds) ∧
  ∀ (i : Nat) (x : V), xs[i]? = some x → (d :: ds)[i]? = some (m d ds) → Q x H
theorem best_at {f : Dat → Dat → Bool} (d : Dat) (ds : List Dat) {i : Nat} (hi : i = argBest (fun i j => f ((d :: ds).getD i .non) ((d :: ds).getD j .non)) ds.length) : (d :: ds)[i]? = some (ds.foldl (fun a y => if f y a = true then y else a) d) := by
  obtain ⟨h1, h2⟩ := PySem.W.argBest_fold f Dat.non d ds ds.length (Nat.le_refl _)
  rw [← hi] at h1 h2
  rw [List.take_length] at h2
  rw [← h2, List.getD_eq_getElem?_getD]
  have : i < (d :: ds).length := by rw [List.length_cons]; omega
  rw [List.getElem?_eq_getElem this]; rfl
theorem vals_at : ∀ {xs : List V} {us : List Value}, Vals xs us → ∀ (i : Nat) (u : Value), us[i]? = some u → ∃ x, xs[i]? = some x ∧ RelV x u
  | [], _, .nil, i, u, h => by simp at h
  | x :: xs, _, .cons r t, i, u, h => by
    cases i with
    | zero => simp at h; subst h; exact ⟨x, rfl, r⟩
    | succ i => simpa using vals_at t i u (by simpa using h)
theorem AlkOk.plain {ds : List Dat} (h : AlkOk ds) : plainDL ds = true ∧ PyData.depthAll (toPyL ds) ≤ 63 := by
  obtain ⟨a, b, c⟩ := shpL_ok 63 ds h.sh
  exact ⟨a, c⟩
theorem cr_minD {X : Cx} (hc : X.calm = true) (hu : X.A.units + 66 < cLine) : CallR X (.builtin "min") (rMmD X.K minO) := by
  intro pins s σ H vs us Q I r h
  obtain ⟨a, d, ds, xs, rfl, hs, hr, ok, q⟩ := h
  obtain ⟨its, rv, hl, hz⟩ := I.list hs
  rw [Vals.ref1 r]
  obtain ⟨p1, p2⟩ := ok.plain
  have hlen := hr.len
  have hl2 := rv.length
  obtain ⟨as, ra⟩ := Dp.readsAll I _ _ _ (RdL.dp _ _ p1 hr) rv
  have ra' : ReadsAll s.heap its.toArray.toList (toPyL (d :: ds)) as := by simpa using ra
  refine PySem.call_min_walkH (PySem.W.iter_listW (A := X.A.in1) (I.ok.hd hc) hl.isList fun s₂ e W st hfp hw hk => ?_)
  refine ⟨_, _, _, _, _, _, _, s.heap, _, rfl, W, st, hfp, by rw [List.size_toArray, ← hl2, ← hlen, List.length_cons]; omega, hw, hk, PySem.W.cmpIn_lt (A := X.A.in1) ra' ok.al (by show X.A.units + 1 + _ < _; omega), fun v s' hP m => ?_⟩
  obtain ⟨h', tk, rfl, hk'⟩ := PySem.W.moved_old e rfl m
  have e1 : its.toArray.size - 1 = ds.length := by rw [List.size_toArray, ← hl2, ← hlen, List.length_cons]; omega
  rw [e1] at hP
  have ebt : (fun i j => PySem.W.dataLt ((toPyL (d :: ds)).getD i .none) ((toPyL (d :: ds)).getD j .none)) = fun i j => ltD ((d :: ds).getD i .non) ((d :: ds).getD j .non) := by
    funext i j; rw [getD_py, getD_py]; rfl
  rw [ebt] at hP
  have hP : its.toArray[argBest (fun i j => ltD ((d :: ds).getD i .non) ((d :: ds).getD j .non)) ds.length]? = some v := hP
  obtain ⟨x, hx, rx⟩ := vals_at rv _ v (by simpa using hP)
  exact ⟨x, H, I.kept (t' := tk) hk', rx, q _ x hx (best_at d ds rfl)⟩
theorem cr_maxD {X : Cx} (hc : X.calm = true) (hu : X.A.units + 66 < cLine) : CallR X (.builtin "max") (rMmD X.K maxO) := by
  intro pins s σ H vs us Q I r h
  obtain ⟨a, d, ds, xs, rfl, hs, hr, ok, q⟩ := h
  obtain ⟨its, rv, hl, hz⟩ := I.list hs
  rw [Vals.ref1 r]
  obtain ⟨p1, p2⟩ := ok.plain
  have hlen := hr.len
  have hl2 := rv.length
  obtain ⟨as, ra⟩ := Dp.readsAll I _ _ _ (RdL.dp _ _ p1 hr) rv
  have ra' : ReadsAll s.heap its.toArray.toList (toPyL (d :: ds)) as := by simpa using ra
  refine PySem.call_max_walkH (PySem.W.iter_listW (A := X.A.in1) (I.ok.hd hc) hl.isList fun s₂ e W st hfp hw hk => ?_)
  refine ⟨_, _, _, _, _, _, _, s.heap, _, rfl, W, st, hfp, by rw [List.size_toArray, ← hl2, ← hlen, List.length_cons]; omega, hw, hk, PySem.W.cmpIn_gt (A := X.A.in1) ra' ok.al (by show X.A.units + 1 + _ < _; omega), fun v s' hP m => ?_⟩
  obtain ⟨h', tk, rfl, hk'⟩ := PySem.W.moved_old e rfl m
  have e1 : its.toArray.size - 1 = ds.length := by rw [List.size_toArray, ← hl2, ← hlen, List.length_cons]; omega
  rw [e1] at hP
  have ebt : (fun i j => PySem.W.dataLt ((toPyL (d :: ds)).getD j .none) ((toPyL (d :: ds)).getD i .none)) = fun i j => ltD ((d :: ds).getD j .non) ((d :: ds).getD i .non) := by
    funext i j; rw [getD_py, getD_py]; rfl
  rw [ebt] at hP
  have hP : its.toArray[argBest (fun i j => ltD ((d :: ds).getD j .non) ((d :: ds).getD i .non)) ds.length]? = some v := hP
  obtain ⟨x, hx, rx⟩ := vals_at rv _ v (by simpa using hP)
  exact ⟨x, H, I.kept (t' := tk) hk', rx, q _ x hx (best_at (f := fun a b => ltD b a) d ds rfl)⟩
def kMm (m : Dat → List Dat → Dat) : List Rv → (Rv → Prop) → Prop := fun rs κ => match rs with
  | [x] => asL x fun ds => match ds with
    | d :: ds => AlkOk (d :: ds) ∧ κ (.v (m d ds))
    | [] => False
  | _ => False
theorem opa_mm {m : Dat → List Dat → Dat} : OpA K (rMmD K m) (kMm m) := by
  intro H0 G Hs H rs vs Q κ s s0 sh h k q
  unfold kMm at k
  split at k
  · obtain ⟨v, rfl, h1⟩ := rvs1 h
    obtain ⟨ds, e, k1⟩ := asL.of k
    split at k1
    · rename_i d ds
      obtain ⟨ok, k1⟩ := k1
      obtain ⟨l, us, rfl, b, c⟩ := h1.lst s s0 e
      refine ⟨l, d, ds, us, rfl, b, c.mono s, ok, fun i x hx hd => ?_⟩
      obtain ⟨y, hy, ry⟩ := c.get hd
      rw [hx] at hy
      cases hy
      exact q _ _ _ (.v (m d ds)) (Ext.refl s) ry k1
    · exact k1.elim
  · exact k.elim
section
variable {X : Cx} {W : WX} {p pos : Pos} {e : Expr} {d : DE}
theorem Room.u66 {k : Nat} {A : Around} (r : Room k A) : A.units + 66 < cLine := by have := r.un; omega
theorem Room.u65 {k : Nat} {A : Around} (r : Room k A) : A.units + 65 < cLine := by have := r.un; omega
theorem me_sorted {k : Nat} (C : Cn X W k) (hm : X.mg "sorted" = none) (h : ME X W e d) (hg : Gl X "sorted" := by rfl) (he : starEach [e] X.env = (false, eval e X.env) :: starEach [] X.env := by rfl) (hpl : (backTo pos (starEach [] X.env)).any (·.1) = false := by rfl) : ME X W (.Call (.Name "sorted" p) [e] [] pos) (dSorted d) :=
  me_B (cr_sortD (Room.u66 C.hr)) opa_sort (by decide +kernel) hm (ma_cons h ma_nil he) hg (by decide) (by decide) he hpl
theorem me_minD {k : Nat} (C : Cn X W k) (hm : X.mg "min" = none) (h : ME X W e d) (hg : Gl X "min" := by rfl) (he : starEach [e] X.env = (false, eval e X.env) :: starEach [] X.env := by rfl) (hpl : (backTo pos (starEach [] X.env)).any (·.1) = false := by rfl) : ME X W (.Call (.Name "min" p) [e] [] pos) (dB (kMm minO) (aCons d aNil)) :=
  me_B (cr_minD C.hc (Room.u66 C.hr)) opa_mm (by decide +kernel) hm (ma_cons h ma_nil he) hg (by decide) (by decide) he hpl
theorem me_maxD {k : Nat} (C : Cn X W k) (hm : X.mg "max" = none) (h : ME X W e d) (hg : Gl X "max" := by rfl) (he : starEach [e] X.env = (false, eval e X.env) :: starEach [] X.env := by rfl) (hpl : (backTo pos (starEach [] X.env)).any (·.1) = false := by rfl) : ME X W (.Call (.Name "max" p) [e] [] pos) (dB (kMm maxO) (aCons d aNil)) :=
  me_B (cr_maxD C.hc (Room.u66 C.hr)) opa_mm (by decide +kernel) hm (ma_cons h ma_nil he) hg (by decide) (by decide) he hpl
end
end DL
namespace L2
open PySem PySem.Spec PyProof.Rows
/-- the pair under a key -/
def prI (q : Addr × List Int) : Int × Int := (q.2.getD 0 0, q.2.getD 1 0)
def encI (q : Addr × List Int) : PyData := .tuple [.int (prI q).1, .int (prI q).2]
def LtP (p q : Int × Int) : Prop := p.1 < q.1 ∨ (p.1 = q.1 ∧ p.2 < q.2)
section
variable {P : Program} {w : World} {A : Around} {s : Shared} {E : Value → Shared → Prop}
theorem encI_eq {q : Addr × List Int} (h : q.2.length = 2) : encI q = .tuple (q.2.map .int) := by
  obtain ⟨a, l⟩ := q
  match l, h with
  | [x, y], _ => rfl
theorem sorted_setP {a : Addr} {L : List (Addr × List Int)} {es : Array (Int × Value)} {ep : Nat} {t : SetTable} {Q : Value → Shared → Prop} (R : SetTR P w s.heap a L es ep t) (hh : A.handled = none) (hu : A.units + 66 < cLine)
    (hB : ∀ p ∈ L, p.2.length = 2)
    (hQ : ∀ s' p (out : Array Value) (c : Nat) (L' : List (Addr × List Int)), (∀ b o, s.heap.get? b = some o → s'.heap.get? b = some o) → s'.gens = s.gens → s'.os = s.os → s.heap.objs.size ≤ p →
      s'.heap.get? p = some (seqObj "list" out c) → out.toList = L'.map (fun q => Value.ref q.1) → L'.Perm L → L'.Pairwise (fun q r => LtP (prI q) (prI r)) → Q (.ref p) s') :
    wpAny (model P w) A (call (.builtin "sorted") [.ref a]) Q E s := by
  obtain ⟨o, ho, hex, hd⟩ := R.ob
  have hsz := R.size
  have hfew := R.few
  refine Calls.call_function_entry kind_sorted plain_sorted entry_sorted (args_sorted1 _) ?_
  unfold Builtin.«sorted»
  refine wpAny_bind (m := checkCount "sorted" 1 1 _) (wpAny_pure ?_)
  refine wpAny_bind (collect_set (A := A.in1) hh ⟨o, ho, hex.1, hd⟩ R.fits (by unfold scanBound; omega) R.tab.ris R.led fun s1 vs k1 hz g1 o1 pm => ?_)
  have hes : es.toList.map (·.2) = L.map fun q => Value.ref q.1 := by
    rw [R.rows]
    unfold rowsOf
    rw [List.map_map] <;> rfl
  rw [hes] at pm
  have ord : ∀ vs : List Value, (∀ v ∈ vs, ∃ q ∈ L, v = Value.ref q.1) → ∃ L1 : List (Addr × List Int), vs = L1.map (fun q => Value.ref q.1) ∧ ∀ q ∈ L1, q ∈ L := by
    intro vs
    induction vs with
    | nil => intro _; exact ⟨[], rfl, fun q hq => (by cases hq)⟩
    | cons v vs ih =>
      intro hv
      obtain ⟨q, hq, e⟩ := hv v List.mem_cons_self
      obtain ⟨L1, e1, hs⟩ := ih fun u hu => hv u (List.mem_cons_of_mem _ hu)
      refine ⟨q :: L1, by rw [List.map_cons, e, e1], fun r hr => ?_⟩
      rcases List.mem_cons.mp hr with z | z
      · rw [z]; exact hq
      · exact hs r z
  have one : ∀ q ∈ L, ∀ r ∈ L, q.1 = r.1 → q = r := fun q hq r hr e => by
    have a1 := R.tup q hq
    have a2 := R.tup r hr
    rw [e] at a1
    exact Prod.ext e (a1.inj a2)
  have perm_of : ∀ L1 : List (Addr × List Int), (∀ q ∈ L1, q ∈ L) → (L1.map (fun q => Value.ref q.1)).Perm (L.map fun q => Value.ref q.1) → L1.Perm L := by
    intro L1 hs pm1
    have nL : L.Nodup := nodup_of_map R.nd
    have nref : (L.map fun q => Value.ref q.1).Nodup := by
      refine List.pairwise_map.mpr (List.Pairwise.imp_of_mem (fun {q r} hq hr hne e => ?_) nL)
      injection e with e
      exact hne (one q hq r hr e)
    have n1 : L1.Nodup := nodup_of_map (pm1.nodup_iff.mpr nref)
    refine (List.perm_ext_iff_of_nodup n1 nL).mpr fun q => ⟨hs q, fun hq => ?_⟩
    have hm : Value.ref q.1 ∈ L1.map (fun q => Value.ref q.1) := pm1.mem_iff.mpr (List.mem_map.mpr ⟨q, hq, rfl⟩)
    obtain ⟨r, hr, e⟩ := List.mem_map.mp hm
    injection e with e
    rw [← one r (hs r hr) q hq e]
    exact hr
  obtain ⟨L1, rfl, hs1⟩ := ord vs fun v hv => by
    obtain ⟨q, hq, e⟩ := List.mem_map.mp (pm.mem_iff.mp hv)
    exact ⟨q, hq, e.symm⟩
  have p1 := perm_of L1 hs1 pm
  have hl1 : L1.length < 64 := by rw [p1.length_eq]; exact hfew
  refine wpAny_bind (wpAny_newList ?_ (by rw [List.length_map, sizeLine_eq]; omega))
  have hoL : (s1.heap.push (seqObj "list" (L1.map fun q => Value.ref q.1).toArray 0)).get? s1.heap.objs.size = some (seqObj "list" (L1.map fun q => Value.ref q.1).toArray 0) := Heap.get?_push_size _ rfl
  have rd : ∀ q ∈ L1, Reads (s1.heap.push (seqObj "list" (L1.map fun q => Value.ref q.1).toArray 0)) (.ref q.1) (encI q) [] := fun q hq => by
    have hL := hs1 q hq
    obtain ⟨b, items, e, ⟨o2, ho2, hc2, n2, hd2⟩, hi⟩ := tupInts_of (P := P) (w := w) (isT_keep (R.tup q hL) fun b u e => Heap.get?_push_of_some (seqObj "list" (L1.map fun q => Value.ref q.1).toArray 0) (k1 b u e))
    cases e
    rw [encI_eq (hB q hL)]
    exact Reads.tuple ho2 hc2 hd2 (hi.reads _)
  have each : ∀ M : List (Addr × List Int), (∀ q ∈ M, q ∈ L1) → PySem.W.EachIs (fun (v : Value) (q : Addr × List Int) => v = .ref q.1) (M.map fun q => Value.ref q.1) M ∧
      PySem.W.EachIs (fun (v : Value) (q : Addr × List Int) => ∃ as, Reads (s1.heap.push (seqObj "list" (L1.map fun q => Value.ref q.1).toArray 0)) v (encI q) as ∧ s1.heap.objs.size ∉ as) (M.map fun q => Value.ref q.1) M := by
    intro M
    induction M with
    | nil => intro _; exact ⟨.nil, .nil⟩
    | cons q M ih =>
      intro h
      obtain ⟨a, b⟩ := ih fun r hr => h r (List.mem_cons_of_mem _ hr)
      exact ⟨.cons rfl a, .cons ⟨[], rd q (h q List.mem_cons_self), by simp⟩ b⟩
  obtain ⟨ea, eb⟩ := each L1 fun q h => h
  have dep : ∀ q, (encI q).depth ≤ 1 := fun q => by
    unfold encI PyData.depth PyData.depthAll PyData.depthAll PyData.depthAll PyData.depth
    decide
  refine wpAny_bind (wpAny_holding (PySem.W.list_sort_data (s := { s1 with heap := s1.heap.push (seqObj "list" (L1.map fun q => Value.ref q.1).toArray 0) }) (enc := encI) hoL ea eb ?_ ?_ (by rw [sizeLine_eq]; omega) (fun q _ => ?_) fun out _ h2 => ?_))
  · intro d hd d' hd'
    obtain ⟨q, _, rfl⟩ := List.mem_map.mp hd
    obtain ⟨r, _, rfl⟩ := List.mem_map.mp hd'
    rfl
  · refine .inl fun d hd => ?_
    obtain ⟨q, _, rfl⟩ := List.mem_map.mp hd
    exact ⟨_, _, rfl⟩
  · have := dep q
    show A.units + 1 + 1 + (encI q).depth < cLine
    omega
  · obtain ⟨c, hc⟩ := sortedHeap_at (vs := L1.map fun q => Value.ref q.1) (out := out.toArray) hoL
    generalize hS : L1.mergeSort (PySem.W.dataLe false encI) = S at h2
    have eo : out = S.map fun q => Value.ref q.1 := by
      have key : ∀ {out : List Value} {S : List (Addr × List Int)}, PySem.W.EachIs (fun (v : Value) (q : Addr × List Int) => v = .ref q.1) out S → out = S.map fun q => Value.ref q.1 := by
        intro out S h
        induction h with
        | nil => rfl
        | cons r _ ih => rw [List.map_cons, r, ih]
      exact key h2
    have ps : S.Perm L1 := by rw [← hS]; exact List.mergeSort_perm _ _
    have ele : PySem.W.dataLe false encI = fun p q => decide ((prI p).1 < (prI q).1 ∨ ((prI p).1 = (prI q).1 ∧ (prI p).2 ≤ (prI q).2)) := PySem.W.dataLe_ii (fun q => (prI q).1) (fun q => (prI q).2)
    have pw : S.Pairwise (fun q r => LtP (prI q) (prI r)) := by
      have h3 := List.pairwise_mergeSort (le := PySem.W.dataLe false encI) (fun a b c => by
        rw [ele]; simp only [decide_eq_true_eq]; omega) (fun a b => by
        rw [ele]; simp only [Bool.or_eq_true, decide_eq_true_eq]; omega) L1
      rw [hS, ele] at h3
      have nd : S.Pairwise (fun q r => q.2 ≠ r.2) := by
        have : (S.map (·.2)).Nodup := ((ps.trans p1).map (·.2)).nodup_iff.mpr R.nd
        exact List.pairwise_map.mp this
      refine List.Pairwise.imp_of_mem (fun {q r} hq hr h => ?_) (h3.and nd)
      obtain ⟨h4, h5⟩ := h
      have l1 := hB q (hs1 q (ps.mem_iff.mp hq))
      have l2 := hB r (hs1 r (ps.mem_iff.mp hr))
      have h4 := of_decide_eq_true h4
      obtain ⟨aq, lq⟩ := q
      obtain ⟨ar, lr⟩ := r
      match lq, lr, l1, l2 with
      | [x, y], [x', y'], _, _ =>
        have h4 : x < x' ∨ (x = x' ∧ y ≤ y') := h4
        show x < x' ∨ (x = x' ∧ y < y')
        have h5 : ¬ ([x, y] = [x', y']) := h5
        by_cases e : x = x'
        · by_cases e2 : y = y'
          · exact absurd (by rw [e, e2]) h5
          · omega
        · omega
    refine wpAny_pure ⟨_, rfl, hQ _ s1.heap.objs.size out.toArray c S (fun b u e => ?_) g1 o1 hz hc eo (ps.trans p1) pw⟩
    have q := k1 b u e
    have hlt := Heap.lt_size q
    show (sortedHeap (s1.heap.push (seqObj "list" (L1.map fun q => Value.ref q.1).toArray 0)) s1.heap.objs.size _ out.toArray).get? b = some u
    rw [sortedHeap_old (Nat.ne_of_lt hlt) (by rw [size_push']; exact Nat.lt_succ_of_lt hlt)]
    exact Heap.get?_push_of_some _ q
end
def rSortedP2 (K : PySem.W.Frag) (P : Program) (w : World) : List V → Hp → VK → Prop := fun vs H Q => ∃ (a : Addr) (L : List (Addr × List Int)), vs = [V.ref a] ∧ H a = some (SetTO P w a L) ∧ (∀ p ∈ L, SqT K H p.1 (p.2.map V.int)) ∧
  (∀ p ∈ L, p.2.length = 2) ∧
  ∀ (L' : List (Addr × List Int)) (p : Addr), L'.Perm L → L'.Pairwise (fun q r => LtP (prI q) (prI r)) → H p = none → Q (.ref p) (upd H p (.lst (L'.map fun q => V.ref q.1)))
theorem cr_sortedP2 {X : Cx} (hc : X.calm = true) (hu : X.A.units + 66 < cLine) : CallR X (.builtin "sorted") (rSortedP2 X.K X.prog X.w) := by
  intro pins s σ H vs us Q I r h
  obtain ⟨a, L, rfl, ha, hk, hB, q⟩ := h
  have R0 : SetT0 X.prog X.w s.heap a L := (I.hok a _ ha).1
  obtain ⟨es, ep, t, R⟩ := R0.full fun p hp => I.isT (hk p hp)
  rw [Vals.ref1 r]
  refine sorted_setP R (I.ok.hd hc) hu hB fun s' p out c L' k g o hp hg hout pm pw => ?_
  have hfew : L'.length < 64 := by rw [pm.length_eq]; exact R.few
  have hlen : (L'.map fun q => V.ref q.1).length ≤ sizeLine := by rw [List.length_map, sizeLine_eq]; omega
  have hn : H p = none := I.hok.fresh hp
  have hv : Vals (L'.map fun q => V.ref q.1) out.toList := by rw [hout]; exact vals_of_refs L'
  have J : Inv X pins σ (upd H p (.lst (L'.map fun q => V.ref q.1))) { s with heap := s'.heap, gens := s'.gens, drawn := s'.drawn, toks := s'.toks } :=
    I.call (ch := []) (Un.laid k hp hn) (I.hok.laid k hp ⟨hlen, out.toList, c, hv, hg⟩) (by rw [g]; exact I.bare) (fun _ z => nomatch z)
  have e : s' = { s with heap := s'.heap, gens := s'.gens, drawn := s'.drawn, toks := s'.toks } := by
    cases s'
    cases s
    cases o
    rfl
  rw [e]
  exact ⟨.ref p, _, J, rfl, q L' p pm pw hn⟩
end L2
namespace DL
open PySem PySem.Spec PyProof.Rows L2
variable {K : PySem.W.Frag}
/-! ### points -/
abbrev Pt := Int × Int
def pt (p : Pt) : Dat := .tup [.int p.1, .int p.2]
def ptD : Dat → Option Pt
  | .tup [.int x, .int y] => some (x, y)
  | _ => none
def ptsD : List Dat → Option (List Pt)
  | [] => some []
  | d :: ds => match ptD d, ptsD ds with
    | some p, some ps => some (p :: ps)
    | _, _ => none
theorem ptsD_map : ∀ ps : List Pt, ptsD (ps.map pt) = some ps
  | [] => rfl
  | p :: ps => by
    show (match ptD (pt p), ptsD (ps.map pt) with
      | some p, some ps => some (p :: ps)
      | _, _ => none) = _
    rw [ptsD_map ps]; rfl
theorem ptD_of {d : Dat} {p : Pt} (h : ptD d = some p) : d = pt p := by
  unfold ptD at h
  split at h
  · cases h; rfl
  · exact nomatch h
theorem ptsD_of : ∀ {ds : List Dat} {ps : List Pt}, ptsD ds = some ps → ds = ps.map pt
  | [], ps, h => by cases h; rfl
  | d :: ds, ps, h => by
    unfold ptsD at h
    split at h
    · rename_i p qs e1 e2
      cases h
      rw [ptD_of e1, ptsD_of e2]; rfl
    · exact nomatch h
theorem pts_keys {G H : Hp} (s : Same G H) : ∀ {ps : List Pt} {vs : List V}, RdL K G (ps.map pt) vs → ∃ ks : List (Addr × List Int), vs = ks.map (fun q => V.ref q.1) ∧ (∀ q ∈ ks, SqT K H q.1 (q.2.map V.int)) ∧ ks.map prI = ps ∧ (∀ q ∈ ks, q.2.length = 2 ∧ RdD K G (pt (prI q)) (.ref q.1)) ∧ ks.length = ps.length ∧ ∀ q ∈ ks, q.2 = [(prI q).1, (prI q).2]
  | [], vs, h => by
    unfold List.map RdL at h
    subst h
    exact ⟨[], rfl, by simp, rfl, by simp, rfl, by simp⟩
  | p :: ps, vs, h => by
    unfold List.map RdL at h
    obtain ⟨v, r, rfl, h1, h2⟩ := h
    obtain ⟨ks, e, k1, k2, k3, k4, k5⟩ := pts_keys s h2
    have h1' := h1
    unfold pt RdD at h1
    obtain ⟨a, us, rfl, g, r1⟩ := h1
    have hu : us = [V.int p.1, V.int p.2] := by
      have := RdL.toInts (K := K) (ns := [p.1, p.2]) r1
      exact this
    subst hu
    refine ⟨(a, [p.1, p.2]) :: ks, by rw [e]; rfl, fun q hq => ?_, by rw [List.map_cons, k2]; rfl, fun q hq => ?_, by rw [List.length_cons, List.length_cons, k4], fun q hq => ?_⟩
    · rcases List.mem_cons.mp hq with z | z
      · rw [z]; exact SqT.of (s _ _ g)
      · exact k1 q z
    · rcases List.mem_cons.mp hq with z | z
      · rw [z]; exact ⟨rfl, h1'⟩
      · exact k3 q z
    · rcases List.mem_cons.mp hq with z | z
      · rw [z]; rfl
      · exact k5 q z
theorem sqT_mono {H H' : Hp} (s : Same H H') {a : Addr} {xs : List V} (h : SqT K H a xs) : SqT K H' a xs := by
  rcases h with (h | ⟨o, h⟩) | h
  · exact .inl (.inl (s _ _ h))
  · exact .inl (.inr ⟨o, s _ _ h⟩)
  · exact .inr h
theorem pts_rd {G : Hp} : ∀ {L : List (Addr × List Int)}, (∀ q ∈ L, RdD K G (pt (prI q)) (.ref q.1)) → RdL K G ((L.map prI).map pt) (L.map fun q => V.ref q.1)
  | [], _ => RdL.nil
  | q :: L, h => RdL.cons (h q List.mem_cons_self) (pts_rd fun r hr => h r (List.mem_cons_of_mem _ hr))
/-- sorted(set(x)) of fewer than 64 points -/
def dSortedSet (a : DE) : DE := fun ρ κ ε => a ρ (fun x => asL x fun ds => onS (ptsD ds) fun ps => ps.length < 64 ∧ ∀ L : List Pt, L.Pairwise LtP → (∀ p, p ∈ L ↔ p ∈ ps) → κ (.n (L.map pt))) ε
section
variable {X : Cx} {W : WX} {e : Expr} {d : DE} {p p2 pos pos2 : Pos}
theorem me_sortedSet {k : Nat} (C : Cn X W k) (hm : X.mg "sorted" = none) (hm2 : X.mg "set" = none) (h : ME X W e d) (hg : Gl X "sorted" := by rfl) (hg2 : Gl X "set" := by rfl)
    (he : starEach [e] X.env = (false, eval e X.env) :: starEach [] X.env := by rfl) (hpl : (backTo pos2 (starEach [] X.env)).any (·.1) = false := by rfl)
    (he2 : starEach [.Call (.Name "set" p2) [e] [] pos2] X.env = (false, eval (.Call (.Name "set" p2) [e] [] pos2) X.env) :: starEach [] X.env := by rfl) (hpl2 : (backTo pos (starEach [] X.env)).any (·.1) = false := by rfl) :
    ME X W (.Call (.Name "sorted" p) [.Call (.Name "set" p2) [e] [] pos2] [] pos) (dSortedSet d) := by
  obtain ⟨t, pa, oa⟩ := h
  refine ⟨_, pe_callB (cr_sortedP2 C.hc (Room.u66 C.hr)) hg hm (by decide +kernel) (pa_cons (pe_callTy (cr_setOfT C.hc C.hr.units) hg2 hm2 (by decide +kernel) (pa_cons pa pa_nil he) (by decide) (by decide) he hpl) pa_nil he2) (by decide) (by decide) he2 hpl2, fun H0 G0 G ρ σ H Q κ ε R h hq hx => ?_⟩
  refine oa H0 G0 G ρ σ H _ _ ε R h (fun v H1 G1 r x1 h1 k1 => ?_) hx
  obtain ⟨ds, ed, k2⟩ := asL.of k1
  obtain ⟨ps, ep, hlt, k3⟩ := onS.of k2
  rw [ptsD_of ep] at ed
  have R1 := R.on x1
  obtain ⟨l, vs, rfl, b, c⟩ := h1.lst x1.s R1.ext.h ed
  obtain ⟨ks, rfl, g1, g2, g3, g4, g5⟩ := pts_keys x1.s c
  refine ⟨l, ks, rfl, b, g1, by omega, fun a L na hL hks => ?_⟩
  have x2 := Ext.newH (o := SetTO X.prog X.w a L) x1.s na
  refine ⟨a, L, rfl, upd_same, fun q hq => ?_, fun q hq => (g3 q (hL q hq)).1, fun L' p pm pw np => ?_⟩
  · exact sqT_mono x2.h (g1 q (hL q hq))
  · have x3 := Ext.newH (o := HO.lst (L'.map fun q => V.ref q.1)) x2.s np
    have hL' : ∀ q ∈ L', q ∈ ks := fun q hq => hL q (pm.mem_iff.mp hq)
    have x23 := (x1.trans x2).trans x3
    refine hq _ _ G1 (.n ((L'.map prI).map pt)) x23 ⟨p, _, rfl, upd_same, pts_rd fun q hq => (g3 q (hL' q hq)).2, (x1.trans x2).h.free np, x2.s.free np⟩ (k3 _ (List.pairwise_map.mpr pw) fun z => ⟨fun hz => ?_, fun hz => ?_⟩)
    · obtain ⟨q, hq, rfl⟩ := List.mem_map.mp hz
      rw [← g2]
      exact List.mem_map.mpr ⟨q, hL' q hq, rfl⟩
    · rw [← g2] at hz
      obtain ⟨q, hq, rfl⟩ := List.mem_map.mp hz
      have := hks q hq
      obtain ⟨r, hr, er⟩ := List.mem_map.mp this
      refine List.mem_map.mpr ⟨r, pm.mem_iff.mpr hr, ?_⟩
      unfold prI
      rw [er]
end
end DL
namespace RT
open PySem PySem.Spec PyProof.Rows L2
section
variable {prog : Program} {w : World} {A : Around} {E : Value → Shared → Prop} {s : Shared}
theorem call_list_rev {it l : Addr} {items : Array Value} {Q : Value → Shared → Prop} (hh : A.handled = none) (hit : s.heap.IsRevIter it l ((items.size : Int) - 1)) (hl : s.heap.IsList l items) (hne : l ≠ it) (hn : items.size ≤ sizeLine)
    (hQ : ∀ (h' : Heap) (tk : Nat) (acc : Array Value) (c : Nat), (∀ b o, b ≠ it → s.heap.get? b = some o → h'.get? b = some o) → h'.get? s.heap.objs.size = some (seqObj "list" acc c) → ItemsOf (fun i v => items[items.size - 1 - i]? = some v) acc items.size →
      Q (.ref s.heap.objs.size) { s with heap := h', toks := tk }) :
    wpAny (model prog w) A (call (.type "list") [.ref it]) Q E s := by
  obtain ⟨oi, hoi, _⟩ := id hit
  obtain ⟨ol, hol, _⟩ := id hl
  have hSi : s.heap.objs.size ≠ it := Nat.ne_of_gt (Heap.lt_size hoi)
  have hSl : s.heap.objs.size ≠ l := Nat.ne_of_gt (Heap.lt_size hol)
  have hSf : s.heap.objs.size ∉ [it, l] := by simp only [List.mem_cons, List.not_mem_nil, or_false, not_or]; exact ⟨hSi, hSl⟩
  refine callType_codes (Q₁ := fun obj s₁ => obj = .ref s.heap.objs.size ∧ s₁ = { s with heap := s.heap.push { cls := .type "list", data := .seq #[] } }) F.called_list (F.typeCall_list_1 _) F.entry_list_init
    (code_list_new _ ⟨rfl, rfl⟩) fun obj s₁ h₁ => ?_
  obtain ⟨rfl, rfl⟩ := h₁
  have hS : (s.heap.push { cls := .type "list", data := .seq #[] }).get? s.heap.objs.size = some { cls := .type "list", data := .seq #[] } := Heap.get?_push_size _ rfl
  refine ⟨⟨_, hS, rfl⟩, F.args_list_init_2 _ _, ?_⟩
  show wpAny _ A.in1.in1 (do let old ← Builtin.List.listItems (.ref s.heap.objs.size); Builtin.List.listUpdate (.ref s.heap.objs.size) (fun _ => #[]); letGo old.toList.reverse; Builtin.List.listExtendWith (.ref s.heap.objs.size) (.ref it) .none) _ _ _
  refine wpAny_bind ?_
  unfold Builtin.List.listItems
  refine wpAny_bind (wpAny_seqItems hS rfl (wpAny_pure ?_))
  show wpAny _ A.in1.in1 (updateSeq s.heap.objs.size (fun _ => #[]) >>= fun _ => letGo (#[] : Array Value).toList.reverse >>= fun _ => Builtin.List.listExtendWith (.ref s.heap.objs.size) (.ref it) .none) _ _ _
  refine wpAny_bind (wpAny_updateSeq hS rfl ?_)
  have hS2 := Heap.get?_update_self (Obj.mapSeq (fun _ => (#[] : Array Value))) hS rfl
  refine wpAny_bind (wpAny_letGo ?_)
  unfold Builtin.List.listExtendWith
  have k1 : ∀ b o, s.heap.get? b = some o → (s.heap.push { cls := .type "list", data := .seq #[] }).get? b = some o := fun b o e => Heap.get?_push_of_some _ e
  have k2 : ∀ b o, s.heap.get? b = some o → ((s.heap.push { cls := .type "list", data := .seq #[] }).update s.heap.objs.size (Obj.mapSeq (fun _ => (#[] : Array Value)))).get? b = some o := fun b o e =>
    (Heap.get?_update_other _ _ (Ne.symm (Nat.ne_of_lt (Heap.lt_size e)))).trans (k1 b o e)
  generalize hh2 : (s.heap.push { cls := .type "list", data := .seq #[] }).update s.heap.objs.size (Obj.mapSeq (fun _ => (#[] : Array Value))) = h2 at hS2 k2
  have hit1 : h2.IsRevIter it l ((items.size : Int) - 1) := hit.at fun o e => k2 _ _ e
  have hl1 : h2.IsList l items := hl.at fun o e => k2 _ _ e
  have hT : ({ s with heap := h2 } : Shared).TypeIs (.ref it) "list_reverseiterator" := Heap.IsRevIter.typeIs (s := { s with heap := h2 }) hit1
  have h1 : Builtin.List.listSameRef (.ref s.heap.objs.size) (.ref it) = false := by simp [Builtin.List.listSameRef, hSi]
  have W := (Walks.listRev (prog := prog) (w := w) (A := A.in1.in1) hh it l hne items).toS
  refine wpAny_bind (wpAny_typeOf hT ?_)
  rw [if_neg (by rw [h1]; decide)]
  refine wpAny_bind (wpAny_pyIter_revIter (s := { s with heap := h2 }) hit1 ?_)
  refine wpAny_bind (wpAny_holding ?_)
  unfold Builtin.List.listLengthHint
  refine wpAny_bind (wpAny_specialOf hT nolen_lri ?_)
  show wpAny _ A.in1.in1 (specialOf (Value.ref it) (Str.ofString "__length_hint__") >>= _) _ _ _
  refine wpAny_bind (wpAny_specialOf hT hint_lri ?_)
  generalize hid : ("list_reverseiterator.__length_hint__" : String) = id0
  wp_delta
  rw [show splitId id0 = some ("list_reverseiterator", "__length_hint__") from by subst hid; decide +kernel]
  subst hid
  refine wpAny_bind (wpAny_isInstance (b := true) hT (by rw [isSubtype_type]; kernel_rfl) ?_)
  refine wpAny_pure ?_
  rw [if_neg (by decide)]
  have e0 : ((items.size : Nat) : Int) - 1 - ((0 : Nat) : Int) = (items.size : Int) - 1 := by omega
  refine wpAny_pure ⟨plainId_quiet F.plain_extend_loop _, codeAny_extend_loopS W hn _ hSf _ items.size 0 _ _ _ rfl (Nat.zero_le _) ⟨Nat.zero_le _, by rw [e0]; exact hit1, hl1⟩ hS2 (ItemsOf.nil _) fun s' acc' c' hm hS' hacc => ?_⟩
  rw [Moved.eq_with hm]
  refine ⟨rfl, hQ s'.heap s'.toks acc' c' (fun b o hb e => hm.heap b o (fun hmem => ?_) (k2 _ _ e)) hS' hacc⟩
  rcases List.mem_cons.mp hmem with e' | hmem
  · exact absurd (Heap.lt_size e) (by rw [e']; exact Nat.lt_irrefl _)
  · exact hb (List.mem_singleton.mp hmem)
end
end RT
namespace DL
open PySem PySem.Spec PyProof.Rows L2
variable {K : PySem.W.Frag}

/-! ### list(reversed(x)) -/
def tListRev (K : PySem.W.Frag) (te : TE) : TE := fun σ H Q => te σ H fun v H1 => ∃ (a : Addr) (xs : List V), v = .ref a ∧ SqL K H1 a xs ∧ ∀ q, H1 q = none → Q (.ref q) (upd H1 q (.lst xs.reverse))
def dRev (a : DE) : DE := fun ρ κ ε => a ρ (fun x => asL x fun ds => κ (.n ds.reverse)) ε
section
variable {X : Cx} {W : WX} {e : Expr} {te : TE} {d : DE} {p p2 pos pos2 : Pos}
theorem pe_listRev (hc : X.calm = true) (hg : Gl X "list") (hm : X.mg "list" = none) (hg2 : Gl X "reversed") (hm2 : X.mg "reversed" = none) (he : PE X e te)
    (hs : starEach [e] X.env = (false, eval e X.env) :: starEach [] X.env := by rfl)
    (hs2 : starEach [.Call (.Name "reversed" p2) [e] [] pos2] X.env = (false, eval (.Call (.Name "reversed" p2) [e] [] pos2) X.env) :: starEach [] X.env := by rfl) :
    PE X (.Call (.Name "list" p) [.Call (.Name "reversed" p2) [e] [] pos2] [] pos) (tListRev X.K te) := by
  refine ⟨fun pins s σ H Q I h => ?_⟩
  refine Call_ (ld_blt I hg hm boot_list (PyProof.Rows.callWith_type1 (args_cons (Call_ (ld_blt I hg2 hm2 PyProof.Rows.boot_reversed (PyProof.Rows.callWith_type1 (args_cons (thn (he.run pins s σ H _ I h) fun u s1 ⟨v, H1, I1, r1, q1⟩ => args_nil ?_) hs) hs rfl))) hs2) hs2 rfl))
  obtain ⟨a, xs, ev, hq, q⟩ := q1
  subst ev
  obtain rfl : u = Value.ref a := r1
  obtain ⟨its, rv, p', hz⟩ := I1.list hq
  refine call_reversed_list p'.isList (args_nil ?_)
  have hl := p'.isList
  obtain ⟨ol, hol, _⟩ := id hl
  have hne : a ≠ s1.heap.objs.size := Nat.ne_of_lt (Heap.lt_size hol)
  have hn : its.toArray.size ≤ sizeLine := by rw [List.size_toArray, ← rv.length]; exact hz
  refine RT.call_list_rev (s := { s1 with heap := s1.heap.push (revObj a ((its.toArray.size : Int) - 1)) }) (I1.ok.hd hc) ⟨_, Heap.get?_push_size _ rfl, rfl, rfl⟩ (hl.push _) hne hn fun h' tk acc c hk hD hi => ?_
  have hsz : (s1.heap.push (revObj a ((its.toArray.size : Int) - 1))).objs.size = s1.heap.objs.size + 1 := size_push' _ _
  have hD : h'.get? (s1.heap.push (revObj a ((its.toArray.size : Int) - 1))).objs.size = some (seqObj "list" acc c) := hD
  rw [hsz] at hD
  show EP X pins σ Q (.ref (s1.heap.push (revObj a ((its.toArray.size : Int) - 1))).objs.size) _
  rw [hsz]
  refine ⟨.ref _, upd H1 (s1.heap.objs.size + 1) (.lst xs.reverse), I1.laid (t' := tk) (fun b u e => hk b u (Nat.ne_of_lt (Heap.lt_size e)) (Heap.get?_push_of_some _ e)) (Nat.le_succ _) ⟨by rw [List.length_reverse]; exact hz, acc.toList, c, RT.vals_rev rv hi, ?_⟩, rfl, q _ (I1.hok.fresh (Nat.le_succ _))⟩
  rw [Array.toArray_toList]
  exact hD
theorem me_listRev {k : Nat} (C : Cn X W k) (hm : X.mg "list" = none) (hm2 : X.mg "reversed" = none) (h : ME X W e d) (hg : Gl X "list" := by rfl) (hg2 : Gl X "reversed" := by rfl)
    (hs : starEach [e] X.env = (false, eval e X.env) :: starEach [] X.env := by rfl)
    (hs2 : starEach [.Call (.Name "reversed" p2) [e] [] pos2] X.env = (false, eval (.Call (.Name "reversed" p2) [e] [] pos2) X.env) :: starEach [] X.env := by rfl) :
    ME X W (.Call (.Name "list" p) [.Call (.Name "reversed" p2) [e] [] pos2] [] pos) (dRev d) := by
  obtain ⟨t, pa, oa⟩ := h
  refine ⟨_, pe_listRev C.hc hg hm hg2 hm2 pa hs hs2, fun H0 G0 G ρ σ H Q κ ε R h hq hx => ?_⟩
  refine oa H0 G0 G ρ σ H _ _ ε R h (fun v H1 G1 r x1 h1 k1 => ?_) hx
  obtain ⟨ds, ed, k2⟩ := asL.of k1
  have R1 := R.on x1
  obtain ⟨l, vs, rfl, b, c⟩ := h1.lst x1.s R1.ext.h ed
  refine ⟨l, vs, rfl, b, fun q nq => ?_⟩
  have y := Ext.newH (o := HO.lst vs.reverse) x1.s nq
  exact hq _ _ _ (.n ds.reverse) (x1.trans y) ⟨q, _, rfl, upd_same, c.reverse, x1.h.free nq, x1.s.free nq⟩ k2
end

/-! ### for over reversed(list) -/
def iRev (c : Bool) (a : DE) : DI := fun ρ κ ε => a ρ (fun r => stays c r = true ∧ asL r fun ds => κ ds.reverse) ε
theorem itOk_rev {K : PySem.W.Frag} {a : Addr} {vs : List V} {ds : List Dat} {B G : Hp} (h : ∀ H, Same B H → Same G H → SqL K H a vs) (r : RdL K G ds vs) : ItOk K (Itv K a vs.length) ds.reverse B G := by
  have hl := r.len
  refine ⟨fun i H b g hi => ?_, fun i H b g hi => by rw [List.length_reverse] at hi; show vs.length ≤ i; omega, fun i H x H' Gc d b g gc hd hy => ?_⟩
  · rw [List.length_reverse] at hi
    exact ⟨by omega, vs, _, h H b g, List.getElem?_eq_getElem (by omega : vs.length - 1 - i < vs.length)⟩
  · obtain ⟨rfl, q⟩ := hy
    have hi : i < ds.length := by
      by_cases hi : i < ds.length
      · exact hi
      · rw [List.getElem?_eq_none (by rw [List.length_reverse]; omega)] at hd; exact nomatch hd
    rw [List.getElem?_reverse hi] at hd
    obtain ⟨v, e1, e2⟩ := r.get hd
    have e := q vs (h _ b (g.trans gc))
    rw [← hl, e1] at e
    cases e
    exact ⟨Gc, Ext.refl gc, RdD.mono g _ _ e2⟩
section
variable {X : Cx} {W : WX} {tg e : Expr} {d : DE} {c : Bool} {p pos : Pos}
theorem mi_rev (hm : X.mg "reversed" = none) (h : ME X W e d) (hg : Gl X "reversed" := by rfl) (hs : starEach [e] X.env = (false, eval e X.env) :: starEach [] X.env := by rfl) : MI X W c tg (.Call (.Name "reversed" p) [e] [] pos) (iRev c d) := by
  obtain ⟨t, pa, oa⟩ := h
  refine ⟨_, RT.pi_revA hg hm pa hs, fun H0 G0 G ρ σ H R κ ε RR h hq hx => ?_⟩
  refine oa H0 G0 G ρ σ H _ _ ε RR h (fun v H1 G1 r x1 hr k => ?_) hx
  obtain ⟨ks, k⟩ := k
  obtain ⟨ds, ed, k⟩ := asL.of k
  have R1 := RR.on x1
  obtain ⟨l, vs, rfl, b1, c1⟩ := hr.lst x1.s R1.ext.h ed
  refine ⟨l, vs, rfl, .inl ⟨b1, ?_⟩⟩
  by_cases hcc : c = true
  · refine hq _ H1 G1 ds.reverse x1 ?_ k
    rw [if_pos hcc]
    exact itOk_rev (vs := vs) (fun H b g => rd_mono b b1) c1
  · cases r with
    | v d0 =>
      have ed : d0 = .lst ds := ed
      subst ed
      have hr : RdD X.K G1 (.lst ds) (.ref l) := hr
      unfold RdD at hr
      obtain ⟨l', vs', e1, b2, c2⟩ := hr
      cases e1
      have el : vs'.length = vs.length := by rw [← c2.len, c1.len]
      exact hq _ H1 G1 ds.reverse x1 (el ▸ itOk_rev (vs := vs') (fun H b g => rd_mono g b2) c2) k
    | n es =>
      injection ed with ed; subst ed
      obtain ⟨l', vs', e1, b2, c2, n2, g2⟩ := hr
      cases e1
      have el : vs'.length = vs.length := by rw [← c2.len, c1.len]
      obtain ⟨y, s⟩ := x1.put n2 b2 g2
      exact hq _ H1 _ es.reverse y (el ▸ itOk_rev (vs := vs') (fun H b g => sq_of (g _ _ upd_same)) (c2.mono s)) k
    | b es =>
      injection ed with ed; subst ed
      obtain ⟨l', vs', e1, b2, c2⟩ := hr
      cases e1
      have el : vs'.length = vs.length := by rw [← c2.len, c1.len]
      refine hq _ H1 G1 es.reverse x1 ?_ k
      rw [if_neg hcc]
      exact (el ▸ itOk_rev (vs := vs') (fun H b g => rd_mono b b2) c2)
    | o es =>
      cases c with
      | true => exact absurd rfl hcc
      | false => exact nomatch ks
end

/-! ### tuples: +, slices, tuple(x); list * n -/
def kCatT : Rv → Rv → (Rv → Prop) → (Str → Prop) → Prop := fun x y κ _ => match x, y with
  | .v (.tup ds), .v (.tup es) => Nat.ble (ds.length + es.length) 100000 = true ∧ κ (.v (.tup (ds ++ es)))
  | _, _ => False
theorem op2_catT : Op2 K (rCatA K) kCatT := by
  intro H0 G Hs H x y v u Q κ ε s s0 sh rx ry h q
  unfold kCatT at h
  split at h
  · rename_i ds es
    obtain ⟨hz, hk⟩ := h
    have rx0 : RdD K G (.tup ds) v := rx
    have ry0 : RdD K G (.tup es) u := ry
    obtain ⟨a, vs, rfl, b1, c1⟩ := rvT s rx
    obtain ⟨b, ws, rfl, b2, c2⟩ := rvT s ry
    refine ⟨a, b, vs, ws, rfl, rfl, b1, b2, by rw [← c1.len, ← c2.len]; exact small_of hz, fun e => ?_, fun _ e => ?_, fun _ _ p np => ?_⟩
    · have : ds = [] := List.eq_nil_of_length_eq_zero (by rw [c1.len, e]; rfl)
      subst this
      exact q _ H G (.v (.tup es)) (Ext.refl s) ry0 hk
    · have : es = [] := List.eq_nil_of_length_eq_zero (by rw [c2.len, e]; rfl)
      subst this
      rw [List.append_nil] at hk
      exact q _ H G (.v (.tup ds)) (Ext.refl s) rx0 hk
    · have y := Ext.newG (o := HO.tup (vs ++ ws)) s np
      refine q _ _ _ (.v (.tup (ds ++ es))) y ?_ hk
      show RdD K _ _ _
      unfold RdD
      exact ⟨p, _, rfl, upd_same, (c1.append c2).mono y.g⟩
  · exact h.elim
def dCatT := dBin kCatT
section
variable {X : Cx} {W : WX} {a b : Expr} {lo hi : Option Expr} {da db : DE} {dl dh : DO} {pos p2 : Pos}
theorem me_catT (ha : ME X W a da) (hb : ME X W b db) : ME X W (.BinOp a .Add b pos) (dCatT da db) := me_bin op_catA op2_catT ha hb
end
def kTuple : List Rv → (Rv → Prop) → Prop := fun rs κ => match rs with
  | [x] => asQ x fun ds => κ (.v (.tup ds))
  | _ => False
theorem opa_tuple {K : PySem.W.Frag} : OpA K (fun xs H Q => ∃ p ys, xs = [.ref p] ∧ ((SqL K H p ys ∧ ∀ l, H l = none → Q (.ref l) (upd H l (.tup ys))) ∨ (SqT K H p ys ∧ Q (.ref p) H))) kTuple := by
  intro H0 G Hs H rs vs Q κ s s0 sh h k q
  unfold kTuple at k
  split at k
  · obtain ⟨v, rfl, h1⟩ := rvs1 h
    obtain ⟨ds, e, k1⟩ := asQ.of k
    rcases e with e | e
    · obtain ⟨l, us, rfl, b, c⟩ := h1.lst s s0 e
      refine ⟨l, us, rfl, .inl ⟨b, fun p np => ?_⟩⟩
      have y := Ext.newG (o := HO.tup us) s np
      refine q _ _ _ (.v (.tup ds)) y ?_ k1
      show RdD K _ _ _
      unfold RdD
      exact ⟨p, _, rfl, upd_same, c.mono y.g⟩
    · rename_i x
      cases x with
      | v d0 =>
        have e : d0 = .tup ds := e
        subst e
        have h10 : RdD K G (.tup ds) v := h1
        obtain ⟨l, us, rfl, b, c⟩ := rvT s h1
        exact ⟨l, us, rfl, .inr ⟨b, q _ H G (.v (.tup ds)) (Ext.refl s) h10 k1⟩⟩
      | n _ => exact nomatch e
      | b _ => exact nomatch e
      | o _ => exact nomatch e
  · exact k.elim
/-- [..] * n, the list made here -/
def kRep : Rv → Rv → (Rv → Prop) → (Str → Prop) → Prop := fun x y κ _ => match x with
  | .n ds => asI y fun k => (-(2 ^ 63) ≤ k ∧ k < 2 ^ 63 ∧ ds.length * k.toNat ≤ sizeLine) ∧ κ (.n (List.replicate k.toNat ds).flatten)
  | _ => False
theorem RdL.rep {G : Hp} {ds : List Dat} {vs : List V} (h : RdL K G ds vs) : ∀ k : Nat, RdL K G (List.replicate k ds).flatten (List.replicate k vs).flatten
  | 0 => RdL.nil
  | k + 1 => by
    rw [List.replicate_succ, List.replicate_succ, List.flatten_cons, List.flatten_cons]
    exact h.append (RdL.rep h k)
theorem op2_rep : Op2 K rRep kRep := by
  intro H0 G Hs H x y v u Q κ ε s s0 sh rx ry h q
  unfold kRep at h
  split at h
  · rename_i ds
    obtain ⟨k, rfl, ⟨z1, z2, z3⟩, hk⟩ := asI.of h
    obtain ⟨l, vs, rfl, b, c, _⟩ := rx
    refine ⟨l, k, vs, rfl, rvI ry, b, z1, z2, by rw [← c.len]; exact z3, fun p np => ?_⟩
    exact q _ _ _ (.n _) (Ext.newH s np) ⟨p, _, rfl, upd_same, c.rep _, np, s.free np⟩ hk
  · exact h.elim
def dRep := dBin kRep
section
variable {X : Cx} {W : WX} {a b e : Expr} {es : List Expr} {da' : DA} {da db : DE} {p pos : Pos}
theorem me_rep (ha : ME X W a da) (hb : ME X W b db) : ME X W (.BinOp a .Mult b pos) (dRep da db) := me_bin op_rep op2_rep ha hb
theorem me_tuple (hm : X.mg "tuple" = none) (ha : MA X W (e :: es) da') (hg : Gl X "tuple" := by rfl) (he : starEach (e :: es) X.env = (false, eval e X.env) :: starEach es X.env := by rfl) (hpl : (backTo pos (starEach es X.env)).any (·.1) = false := by rfl) : ME X W (.Call (.Name "tuple" p) (e :: es) [] pos) (dB kTuple da') :=
  me_Ty call_tuple_of opa_tuple (by decide +kernel) hm ha hg (by decide) (by decide) he hpl
end
end DL
namespace DL
open PySem PySem.Spec PyProof.Rows L2
variable {K : PySem.W.Frag}
theorem Cn.tr {X : Cx} {W W' : WX} {k : Nat} (C : Cn X W' k) {pn : List (Addr × Obj)} {xe : Value → Shared → Prop} (tk : Takes (X.tr pn xe) W) (po : PassesOwn (model X.prog X.w) X.A X.env xe) : Cn (X.tr pn xe) W k := ⟨tk, po, C.hc, C.hr, C.nd⟩
theorem Xm.mk' {mg : MG} {a b : Str} {r : Bool} {C D : Addr} (h1 : mg a = some (.ref C)) (h2 : mg b = some (.ref D)) (h3 : PySem.W.exmOne K (.ref C) (.ref D) = some r) : Xm K mg a b r := ⟨C, D, h1, h2, h3⟩
theorem Xi.mk' {mg : MG} {a b : Str} {r : Bool} {C D : Addr} (h1 : mg a = some (.ref C)) (x : ExcC K C) (h2 : mg b = some (.ref D)) (k : PySem.W.keepIn K (.ref D) = true) (h3 : PySem.W.kitOne K (.ref C) (.ref D) = some r) : Xi K mg a b r := ⟨C, h1, x, .inl ⟨D, h2, k, h3⟩⟩
theorem Xi.mkV {mg : MG} {a : Str} {r : Bool} {C : Addr} (h1 : mg a = some (.ref C)) (x : ExcC K C) (h2 : mg "ValueError" = none) (h3 : PySem.W.kitOne K (.ref C) (.type "ValueError") = some r) : Xi K mg a "ValueError" r := ⟨C, h1, x, .inr ⟨h2, by decide +kernel, rfl, h3⟩⟩
/-! ### x + y of ints, lists, tuples -/
def kPlus : Rv → Rv → (Rv → Prop) → (Str → Prop) → Prop := fun x y κ ε => match x.dat, y.dat with
  | .int i, .int j => κ (.v (.int (i + j)))
  | .lst ds, .lst es => ds.length + es.length ≤ sizeLine ∧ κ (.n (ds ++ es))
  | .tup ds, .tup es => Nat.ble (ds.length + es.length) 100000 = true ∧ κ (.v (.tup (ds ++ es)))
  | _, _ => False
theorem Rv.int_of {x : Rv} {i : Int} (e : x.dat = .int i) : x = .v (.int i) := by
  cases x with
  | v d => have e : d = .int i := e; rw [e]
  | n _ => exact nomatch e
  | b _ => exact nomatch e
  | o _ => exact nomatch e
theorem op2_or {r r' : R2} {k1 k2 k : Rv → Rv → (Rv → Prop) → (Str → Prop) → Prop} (h1 : Op2 K r k1) (h2 : Op2 K r' k2) (h : ∀ x y κ ε, k x y κ ε → k1 x y κ ε ∨ k2 x y κ ε) : Op2 K (fun x y H Q => r x y H Q ∨ r' x y H Q) k := by
  intro H0 G Hs H x y v u Q κ ε s s0 sh rx ry hk q
  rcases h x y κ ε hk with hk | hk
  · exact .inl (h1 H0 G Hs H x y v u Q κ ε s s0 sh rx ry hk q)
  · exact .inr (h2 H0 G Hs H x y v u Q κ ε s s0 sh rx ry hk q)
theorem op2_plus : Op2 K (fun x y H Q => rI0 (fun i j => .int (i + j)) x y H Q ∨ (rCatR K x y H Q ∨ rCatA K x y H Q)) kPlus := by
  refine op2_or (k1 := kI0 fun i j => .int (i + j)) (k2 := fun x y κ ε => kCat x y κ ε ∨ kCatT x y κ ε) (op2_I0 rdI) (op2_or op2_cat op2_catT fun x y κ ε h => h) fun x y κ ε h => ?_
  unfold kPlus at h
  split at h
  · rename_i i j e1 e2
    obtain rfl := Rv.int_of e1
    obtain rfl := Rv.int_of e2
    exact .inl h
  · rename_i ds es e1 e2
    refine .inr (.inl ?_)
    unfold kCat asL
    rw [e1, e2]
    exact h
  · rename_i ds es e1 e2
    obtain rfl := Rv.tup_of e1
    obtain rfl := Rv.tup_of e2
    exact .inr (.inr h)
  · exact h.elim
def dPlus := dBin kPlus
theorem me_plus {X : Cx} {W : WX} {a b : Expr} {da db : DE} {pos : Pos} (ha : ME X W a da) (hb : ME X W b db) : ME X W (.BinOp a .Add b pos) (dPlus da db) := me_bin (op_add.or (op_catR.or op_catA)) op2_plus ha hb
end DL
namespace DL
open PySem PySem.Spec PyProof.Rows L2
variable {K : PySem.W.Frag}
/-! ### an int in a tuple of ints -/
def kInT (neg : Bool) : Rv → Rv → (Rv → Prop) → (Str → Prop) → Prop := fun x y κ _ => asI x fun i => match y with
  | .v (.tup ds) => onS (intsD ds) fun ns => κ (.v (.bl (if neg = true then !decide (i ∈ ns) else decide (i ∈ ns))))
  | _ => False
theorem flat_ints : ∀ ns : List Int, (ns.map V.int).all flatV = true
  | [] => rfl
  | n :: ns => by rw [List.map_cons, List.all_cons, flat_ints ns]; rfl
theorem inV_ints (i : Int) : ∀ ns : List Int, inV (.int i) (ns.map V.int) = decide (i ∈ ns)
  | [] => rfl
  | n :: ns => by
    have ih := inV_ints i ns
    unfold inV at ih ⊢
    rw [List.map_cons, List.any_cons, ih]
    have : eqV (V.int n) (V.int i) = decide (i = n) := by
      show (n == i) = _
      by_cases h : i = n
      · subst h; simp
      · have : ¬ n = i := fun z => h z.symm
        simp [h, this]
    rw [this]
    by_cases h : i = n <;> simp [h]
theorem op2_inT {neg : Bool} : Op2 K (rIn K neg) (kInT neg) := by
  intro H0 G Hs H x y v u Q κ ε s s0 sh rx ry h q
  obtain ⟨i, rfl, h1⟩ := asI.of h
  split at h1
  · rename_i ds
    obtain ⟨ns, e, h2⟩ := onS.of h1
    obtain ⟨a, vs, rfl, b, c⟩ := rvT s ry
    rw [intsD_of e] at c
    rw [c.toInts] at b
    rw [rvI rx]
    refine ⟨a, _, rfl, .inr b, rfl, flat_ints ns, ?_⟩
    rw [inV_ints]
    exact q _ H G (.v (.bl _)) (Ext.refl s) toB h2
  · exact h1.elim
def dInT (neg : Bool) := dBin (kInT neg)
section
variable {X : Cx} {W : WX} {a b : Expr} {da db : DE} {pos : Pos}
theorem me_inT (ha : ME X W a da) (hb : ME X W b db) (hm : behindInMarks .In b = false := by rfl) : ME X W (.Compare a [.In] [b] pos) (dInT false da db) := me_cmp op_in_seq op2_inT ha hb hm
theorem me_notinT (ha : ME X W a da) (hb : ME X W b db) (hm : behindInMarks .NotIn b = false := by rfl) : ME X W (.Compare a [.NotIn] [b] pos) (dInT true da db) := me_cmp op_notIn_seq op2_inT ha hb hm
theorem mt_inT (ha : ME X W a da) (hb : ME X W b db) (hm : behindInMarks .In b = false := by rfl) : MT X W (.Compare a [.In] [b] pos) (tVal (dInT false da db)) := mt_cmp op_in_seq op2_inT ha hb hm
theorem mt_notinT (ha : ME X W a da) (hb : ME X W b db) (hm : behindInMarks .NotIn b = false := by rfl) : MT X W (.Compare a [.NotIn] [b] pos) (tVal (dInT true da db)) := mt_cmp op_notIn_seq op2_inT ha hb hm
end
/-! ### len(set(x)) of fewer than 64 points -/
def rLenT (K : PySem.W.Frag) (P : Program) (w : World) : List V → Hp → VK → Prop := fun vs H Q => ∃ (a : Addr) (L : List (Addr × List Int)), vs = [V.ref a] ∧ H a = some (SetTO P w a L) ∧ (∀ p ∈ L, SqT K H p.1 (p.2.map V.int)) ∧ ((L.map (·.2)).Nodup → Q (.int L.length) H)
theorem cr_lenT {X : Cx} : CallR X (.builtin "len") (rLenT X.K X.prog X.w) := by
  intro pins s σ H vs us Q I r h
  obtain ⟨a, L, rfl, ha, hk, q⟩ := h
  have R0 : SetT0 X.prog X.w s.heap a L := (I.hok a _ ha).1
  obtain ⟨es, ep, t, R⟩ := R0.full fun p hp => I.isT (hk p hp)
  rw [Vals.ref1 r]
  obtain ⟨o, ho, hex, hd⟩ := R.ob
  have hsz := R.size
  have hfew := R.few
  refine call_len_set ho hex hd R.fits (by omega) ⟨.int L.length, H, I.tok _, ⟨_, by rw [hsz]⟩, q R.nd⟩
def dLenSet (a : DE) : DE := fun ρ κ ε => a ρ (fun x => asL x fun ds => onS (ptsD ds) fun ps => ps.length < 64 ∧ ∀ L : List Pt, L.Nodup → (∀ p, p ∈ L ↔ p ∈ ps) → κ (.v (.int (L.length : Int)))) ε
section
variable {X : Cx} {W : WX} {e : Expr} {d : DE} {p p2 pos pos2 : Pos}
theorem me_lenSet {k : Nat} (C : Cn X W k) (hm : X.mg "len" = none) (hm2 : X.mg "set" = none) (h : ME X W e d) (hg : Gl X "len" := by rfl) (hg2 : Gl X "set" := by rfl)
    (he : starEach [e] X.env = (false, eval e X.env) :: starEach [] X.env := by rfl) (hpl : (backTo pos2 (starEach [] X.env)).any (·.1) = false := by rfl)
    (he2 : starEach [.Call (.Name "set" p2) [e] [] pos2] X.env = (false, eval (.Call (.Name "set" p2) [e] [] pos2) X.env) :: starEach [] X.env := by rfl) (hpl2 : (backTo pos (starEach [] X.env)).any (·.1) = false := by rfl) :
    ME X W (.Call (.Name "len" p) [.Call (.Name "set" p2) [e] [] pos2] [] pos) (dLenSet d) := by
  obtain ⟨t, pa, oa⟩ := h
  refine ⟨_, pe_callB cr_lenT hg hm PySem.boot_len (pa_cons (pe_callTy (cr_setOfT C.hc C.hr.units) hg2 hm2 (by decide +kernel) (pa_cons pa pa_nil he) (by decide) (by decide) he hpl) pa_nil he2) (by decide) (by decide) he2 hpl2, fun H0 G0 G ρ σ H Q κ ε R h hq hx => ?_⟩
  refine oa H0 G0 G ρ σ H _ _ ε R h (fun v H1 G1 r x1 h1 k1 => ?_) hx
  obtain ⟨ds, ed, k2⟩ := asL.of k1
  obtain ⟨ps, ep, hlt, k3⟩ := onS.of k2
  rw [ptsD_of ep] at ed
  have R1 := R.on x1
  obtain ⟨l, vs, rfl, b, c⟩ := h1.lst x1.s R1.ext.h ed
  obtain ⟨ks, rfl, g1, g2, g3, g4, g5⟩ := pts_keys x1.s c
  refine ⟨l, ks, rfl, b, g1, by omega, fun a L na hL hks => ?_⟩
  have x2 := Ext.newH (o := SetTO X.prog X.w a L) x1.s na
  refine ⟨a, L, rfl, upd_same, fun q hq => ?_, fun nd => ?_⟩
  · exact sqT_mono x2.h (g1 q (hL q hq))
  · have key : ∀ q ∈ L, q.2 = [(prI q).1, (prI q).2] := fun q hq => g5 q (hL q hq)
    have nd2 : (L.map prI).Nodup := by
      refine List.pairwise_map.mpr (List.Pairwise.imp_of_mem (fun {q r} hq hr hne e => hne ?_) (List.pairwise_map.mp nd))
      rw [key q hq, key r hr, e]
    have k4 := k3 (L.map prI) nd2 fun z => ⟨fun hz => ?_, fun hz => ?_⟩
    · rw [List.length_map] at k4
      exact hq _ _ G1 (.v (.int _)) (x1.trans x2) toI k4
    · obtain ⟨q, hq, rfl⟩ := List.mem_map.mp hz
      rw [← g2]
      exact List.mem_map.mpr ⟨q, hL q hq, rfl⟩
    · rw [← g2] at hz
      obtain ⟨q, hq, rfl⟩ := List.mem_map.mp hz
      obtain ⟨r, hr, er⟩ := List.mem_map.mp (hks q hq)
      refine List.mem_map.mpr ⟨r, hr, ?_⟩
      unfold prI
      rw [er]
end
end DL
namespace DL
open PySem PySem.Spec PyProof.Rows L2
/-! ### for over an own list that the loop only looks at -/
def sOwnL (k : Nat) (all : List Dat) (g : DG) (t : DT) (a : DS) (κ : DEnds) : List Dat → List Sl → Prop
  | [], ρ => κ.nx ρ
  | d :: ds, ρ => g (.v d) ρ fun ρ1 => ρ1[k]? = some (.ow all) ∧ t ρ1 (fun c => if c = true then a { κ with nx := fun _ => False, ct := fun _ => False, bk := fun _ => False } ρ1 else sOwnL k all g t a κ ds ρ1) (fun nm => κ.ex nm ρ1)
def sForOwn (k : Nat) (g : DG) (t : DT) (a : DS) : DS := fun κ ρ => match ρ[k]? with
  | some (.ow ds) => sOwnL k ds g t a κ ds ρ
  | _ => False
theorem ms_forOwn {X : Cx} {W : WX} {tg c : Expr} {xs : List Stmt} {g : DG} {t : DT} {a : DS} {pos p p2 : Pos} {x : Str} {kk : Nat} {is : List Nat} (C : Cn X W kk) (k : Nat) (hg : MG1 X tg is g) (hc : MT X W c t) (ha : MSs X W xs a) (hk : k ∉ is := by decide)
    (hN : X.N[k]? = some x := by rfl) (hv : Vis X.env.scope x := by first | exact Or.inl rfl | exact Or.inr (Or.inl rfl) | exact Or.inr (Or.inr rfl)) (hd : (x == ("__debug__" : Str)) = false := by decide)
    (hcd : (x == ("__classdict__" : Str)) = false := by decide) (hs : ∀ y, foldedSetIterable (.Name x p) X.env y = pure y := by intro _; rfl) : MS X W (.For tg (.Name x p) [.If c xs [] p2] [] pos) (sForOwn k g t a) := by
  obtain ⟨tg', pg, og⟩ := hg
  obtain ⟨tc, pc, oc⟩ := hc
  obtain ⟨ta, pa, oa⟩ := ha
  refine ⟨_, ps_for C.hp C.hc (pi_seq (pe_var hN hv hd hcd)) pg (pss_one (ps_if pc pa pss_nil)) hs, fun H0 G0 G ρ σ H D κ R h E => ?_⟩
  unfold sForOwn at h
  split at h
  · rename_i ds eo
    obtain ⟨l, vs, e1, e2, e3⟩ := ow_at R eo
    refine ⟨_, e1, l, rfl, .inl ⟨⟨vs, SqL.of e2⟩, ?_⟩⟩
    refine ⟨fun i m σ' H' => ∃ ρ' G', Rel X.K H0 G0 G' ρ' σ' H' ∧ ρ'[k]? = some (.ow ds) ∧ σ'[k]? = some (some (.ref l)) ∧ m = ds.length - i ∧ sOwnL k ds g t a κ (ds.drop i) ρ', ⟨ds.length, ρ, G, R, eo, e1, rfl, by simpa using h⟩, ?_⟩
    rintro i m σ' H' ⟨ρ', G', R', eo', es', rfl, hl⟩
    obtain ⟨l', vs', f1, f2, f3⟩ := ow_at R' eo'
    have : l' = l := by rw [es'] at f1; simpa using f1.symm
    subst this
    have hln := f3.len
    by_cases hlt : i < ds.length
    · have hlt2 : i < vs'.length := by omega
      refine .inr ⟨⟨vs', _, SqL.of f2, List.getElem?_eq_getElem hlt2⟩, fun σ2 H2 => ∃ ρ2 G2, Rel X.K H0 G0 G2 ρ2 σ2 H2 ∧ ρ2[k]? = some (.ow ds) ∧ σ2[k]? = some (some (.ref l')) ∧ sOwnL k ds g t a κ (ds.drop (i + 1)) ρ2, fun σ2 H2 ⟨ρ2, G2, R2, q1, q2, h2⟩ => ⟨ds.length - (i + 1), by omega, ρ2, G2, R2, q1, q2, rfl, h2⟩, fun x H2 hy => ?_⟩
      obtain ⟨rfl, q⟩ := hy
      have hx := q vs' (SqL.of f2)
      have hdd : ds[i]? = some ds[i] := List.getElem?_eq_getElem hlt
      obtain ⟨v, g1, g2⟩ := f3.get hdd
      rw [hx] at g1
      cases g1
      rw [List.drop_eq_getElem_cons hlt] at hl
      refine og H0 G0 G' G' ρ' σ' _ _ (.v ds[i]) x _ _ R' (Ext.refl R'.ext.s) g2 hl fun ρ3 σ3 R3 tch k3 => ?_
      obtain ⟨k4, k5⟩ := k3
      have es3 : σ3[k]? = some (some (.ref l')) := by rw [tch.2 k hk]; exact es'
      refine oc H0 G0 G' ρ3 σ3 _ _ _ _ R3 k5 (fun b H4 G4 x4 hb => ?_) (E.xok R3)
      have R4 := R3.on x4
      by_cases hbb : b = true
      · rw [if_pos hbb] at hb ⊢
        exact oa H0 G0 G4 ρ3 σ3 H4 _ _ R4 hb ⟨fun _ _ _ _ _ z => z.elim, fun _ _ _ _ _ z => z.elim, fun _ _ _ _ _ z => z.elim, E.rt, E.ex⟩
      · rw [if_neg hbb] at hb ⊢
        exact ⟨ρ3, G4, R4, k4, es3, hb⟩
    · refine .inl ⟨⟨vs', SqL.of f2, by omega⟩, ?_⟩
      rw [List.drop_eq_nil_of_le (by omega)] at hl
      exact E.nx ρ' σ' H' G' R' hl
  · exact h.elim
end DL
namespace DL
open PySem PySem.Spec PyProof.Rows L2
/-! ### a dict of written numbers, to be looked at -/
def dicI (kvs : List (Int × Int)) : Dat := .dic (mergeK [] (kvs.map fun kv => ((.inl kv.1 : Key), V.int kv.2)))
def trsI (kvs : List (Int × Int)) : List (TE × TE) := kvs.map fun kv => (tC (.int kv.1), tC (.int kv.2))
theorem pairs_I {σ : L2.St} {H : Hp} : ∀ (kvs : List (Int × Int)) (F : List (V × V) → Hp → Prop), F (kvs.map fun kv => (V.int kv.1, V.int kv.2)) H → tPairs (trsI kvs) σ H F
  | [], F, h => h
  | kv :: kvs, F, h => pairs_I kvs (fun ps H3 => F ((V.int kv.1, V.int kv.2) :: ps) H3) h
theorem me_dic {X : Cx} {W : WX} {pos : Pos} {keys : List (Option Expr)} {values : List Expr} (kvs : List (Int × Int)) (h : PPs X pos keys values (trsI kvs)) (hall : keys.all (·.isSome) = true := by rfl) (hl : keys.length = values.length := by rfl) (h0 : keys ≠ [] := by simp)
    (h15 : keys.length ≤ 15 := by decide) (hk : (kvs.map fun kv => ((.inl kv.1 : Key), V.int kv.2)).length ≤ 15 := by decide) : ME X W (.Dict keys values pos) (dC (dicI kvs)) := by
  refine ⟨_, pe_disp h hall hl h0 h15, fun H0 G0 G ρ σ H Q κ ε R hκ hq hx => ?_⟩
  intro p np
  refine pairs_I kvs _ ⟨upd_same, kvs.map fun kv => ((.inl kv.1 : Key), V.int kv.2), ?_, hk, ?_⟩
  · rw [List.map_map]; rfl
  · rw [upd_upd]
    refine hq _ _ _ (.v (dicI kvs)) (Ext.newG R.ext.s np) ?_ hκ
    show RdD X.K _ (dicI kvs) _
    unfold dicI RdD
    exact ⟨p, rfl, upd_same⟩
theorem me_dic0 {X : Cx} {W : WX} {pos : Pos} : ME X W (.Dict [] [] pos) (dC (dicI [])) := by
  refine ⟨_, pe_dnewK, fun H0 G0 G ρ σ H Q κ ε R hκ hq hx => ?_⟩
  intro p np
  refine hq _ _ _ (.v (dicI [])) (Ext.newG R.ext.s np) ?_ hκ
  show RdD X.K _ (dicI []) _
  unfold dicI RdD
  exact ⟨p, rfl, upd_same⟩
/-! ### the first place of a thing in a list -/
def dIndex (a b : DE) : DE := fun ρ κ ε => a ρ (fun x => b ρ (fun y => asL x fun ds => (shp 64 y.dat = true ∧ shp 64 (.lst ds) = true) ∧ ∃ j : Nat, (∃ z, ds[j]? = some z ∧ eqD z y.dat = true) ∧ (∀ (m : Nat) (z : Dat), m < j → ds[m]? = some z → eqD z y.dat = false) ∧ κ (.v (.int (j : Int)))) ε) ε
end DL
namespace DL
open PySem PySem.Spec PyProof.Rows L2
variable {K : PySem.W.Frag}

/-! ### sizes of numbers -/
/-- of less than k bits -/
@[irreducible] def Bt (k : Nat) (i : Int) : Prop := i.natAbs < 2 ^ k
theorem Bt.def {k : Nat} {i : Int} : Bt k i ↔ i.natAbs < 2 ^ k := by unfold Bt; exact Iff.rfl
theorem Bt.mono {k l : Nat} {i : Int} (h : Bt k i) (hl : k ≤ l) : Bt l i := by
  rw [Bt.def] at h ⊢
  exact Nat.lt_of_lt_of_le h (Nat.pow_le_pow_right (by decide) hl)
theorem Bt.add {k l : Nat} {i j : Int} (h : Bt k i) (h2 : Bt l j) : Bt (max k l + 1) (i + j) := by
  have a := h.mono (Nat.le_max_left k l)
  have b := h2.mono (Nat.le_max_right k l)
  rw [Bt.def] at a b ⊢
  have := Int.natAbs_add_le i j
  rw [Nat.pow_succ]
  omega
theorem Bt.neg {k : Nat} {i : Int} (h : Bt k i) : Bt k (-i) := by
  rw [Bt.def] at h ⊢; rw [Int.natAbs_neg]; exact h
theorem Bt.sub {k l : Nat} {i j : Int} (h : Bt k i) (h2 : Bt l j) : Bt (max k l + 1) (i - j) := by
  rw [Int.sub_eq_add_neg]; exact h.add h2.neg
theorem Bt.mul {k l : Nat} {i j : Int} (h : Bt k i) (h2 : Bt l j) : Bt (k + l) (i * j) := by
  rw [Bt.def] at h h2 ⊢
  rw [Int.natAbs_mul, Nat.pow_add]
  exact Nat.mul_lt_mul'' h h2
theorem Bt.of_lt {k : Nat} {i : Int} (h1 : -(2 ^ k : Nat) < i) (h2 : i < (2 ^ k : Nat)) : Bt k i := by
  rw [Bt.def]; omega
theorem Bt.lt {k : Nat} {i : Int} (h : Bt k i) : -((2 ^ k : Nat) : Int) < i ∧ i < ((2 ^ k : Nat) : Int) := by
  rw [Bt.def] at h; omega
theorem Bt.le_abs {k : Nat} {i j : Int} (h : Bt k j) (hi : i.natAbs ≤ j.natAbs) : Bt k i := by
  rw [Bt.def] at h ⊢; exact Nat.lt_of_le_of_lt hi h
theorem Bt.lit {k : Nat} {i : Int} (h : decide (i.natAbs < 2 ^ k) = true) : Bt k i := by
  rw [Bt.def]; exact of_decide_eq_true h
theorem Bt.emod {k : Nat} {i m : Int} (hm : decide (0 < m) = true) (h : decide (m.natAbs ≤ 2 ^ k) = true) : Bt k (i % m) := by
  have h1 : 0 < m := of_decide_eq_true hm
  have h2 : m.natAbs ≤ 2 ^ k := of_decide_eq_true h
  have a := Int.emod_nonneg i (Int.ne_of_gt h1)
  have b := Int.emod_lt_of_pos i h1
  rw [Bt.def]; omega
theorem Bt.emodm {k : Nat} {i m : Int} (hm : 0 < m) (h : Bt k m) : Bt k (i % m) := by
  have a := Int.emod_nonneg i (Int.ne_of_gt hm)
  have b := Int.emod_lt_of_pos i hm
  exact h.le_abs (by omega)
theorem Bt.ediv {k : Nat} {i m : Int} (h : Bt k i) : Bt k (i / m) := by
  refine h.le_abs ?_
  exact Int.natAbs_ediv_le_natAbs i m
theorem Bt.nat {k n : Nat} (h : n < 2 ^ k) : Bt k (n : Int) := by rw [Bt.def]; simpa using h
theorem Bt.log2 {k : Nat} {i : Int} (h : Bt k i) (hk : 0 < k) : i.natAbs.log2 < k := by
  rw [Bt.def] at h
  exact PySem.Flt.log2_lt_of hk h
theorem mulok {k l : Nat} {i j : Int} (h : Bt k i) (h2 : Bt l j) (hs : decide (0 < k ∧ 0 < l ∧ k + l ≤ 100000000) = true) : MulOk i j := by
  obtain ⟨a, b, c⟩ := of_decide_eq_true hs
  have x := h.log2 a
  have y := h2.log2 b
  unfold MulOk; omega
theorem divp {k : Nat} {i j : Int} (h0 : 0 < j) (h : Bt k j) (hs : decide (0 < k ∧ k ≤ 9000) = true) : DivP i j := by
  obtain ⟨a, b⟩ := of_decide_eq_true hs
  exact ⟨h0, Nat.lt_of_lt_of_le (h.log2 a) b⟩
theorem Bt.any {i : Int} : Bt (i.natAbs.log2 + 1) i := by
  rw [Bt.def]; exact Nat.lt_log2_self
theorem Bt.emod' {i m : Int} (hm : decide (0 < m) = true) : Bt (m.natAbs.log2 + 1) (i % m) := Bt.emodm (of_decide_eq_true hm) Bt.any
theorem Bt.ite {k l : Nat} {c : Prop} [Decidable c] {i j : Int} (h : Bt k i) (h2 : Bt l j) : Bt (max k l) (if c then i else j) := by
  split
  · exact h.mono (Nat.le_max_left _ _)
  · exact h2.mono (Nat.le_max_right _ _)
theorem Bt.le {k l : Nat} {i : Int} (h : Bt k i) (hs : decide (k ≤ l) = true) : Bt l i := h.mono (of_decide_eq_true hs)
theorem divp_lit {i j : Int} (h : decide (0 < j ∧ j.natAbs.log2 < 9000) = true) : DivP i j := by
  have := of_decide_eq_true h
  exact this
theorem modp_lit {i j : Int} (h : decide (0 < j) = true) : ModP i j := by
  have := of_decide_eq_true h
  exact this
theorem cpow_lit {i j : Int} (h : decide (0 ≤ j ∧ j ≤ 1000000 ∧ i.natAbs < 2 ^ 64) = true) : CPow i j := by
  have := of_decide_eq_true h
  exact this

theorem ifd {p : Prop} [Decidable p] {A B : Prop} (h1 : p → A) (h2 : ¬ p → B) : if decide p = true then A else B := by
  by_cases h : p
  · rw [if_pos (decide_eq_true h)]; exact h1 h
  · rw [if_neg (fun z => h (of_decide_eq_true z))]; exact h2 h
theorem ifT {c : Bool} {A B : Prop} (hc : c = true) (h : A) : if c = true then A else B := by rw [if_pos hc]; exact h
theorem ifF {c : Bool} {A B : Prop} (hc : c = false) (h : B) : if c = true then A else B := by rw [hc, if_neg Bool.false_ne_true]; exact h
theorem ifb {c : Bool} {A B : Prop} (h1 : c = true → A) (h2 : c = false → B) : if c = true then A else B := by
  cases c with
  | true => exact ifT rfl (h1 rfl)
  | false => exact ifF rfl (h2 rfl)
theorem ifEq {i j : Int} {A B : Prop} (h1 : i = j → A) (h2 : i ≠ j → B) : if eqD (.int i) (.int j) = true then A else B := by
  unfold eqD
  exact ifb (fun h => h1 (by simpa using h)) (fun h => h2 (by simpa using h))
theorem ifNe {i j : Int} {A B : Prop} (h1 : i ≠ j → A) (h2 : i = j → B) : if (!eqD (.int i) (.int j)) = true then A else B := by
  unfold eqD
  exact ifb (fun h => h1 (by simpa using h)) (fun h => h2 (by simpa using h))
theorem ifNot {c : Bool} {A B : Prop} (h1 : c = false → A) (h2 : c = true → B) : if (!c) = true then A else B := by
  cases c with
  | true => exact ifF rfl (h2 rfl)
  | false => exact ifT rfl (h1 rfl)
theorem eqD_int {i j : Int} : eqD (.int i) (.int j) = (i == j) := by unfold eqD; rfl
/-! ### points -/


structure BP (k : Nat) (p : Pt) : Prop where
  x : Bt k p.1
  y : Bt k p.2
theorem BP.mono {k l : Nat} {p : Pt} (h : BP k p) (hl : k ≤ l) : BP l p := ⟨h.x.mono hl, h.y.mono hl⟩
theorem pt_tup (p : Pt) : pt p = .tup [.int p.1, .int p.2] := rfl
theorem cutD_take (xs : List Dat) (n : Nat) : cutD xs none (some (n : Int)) = xs.take n := by
  unfold cutD
  rw [HT.sIx_none, HT.sIx_nat, List.drop_zero, Nat.sub_zero]
  rcases Nat.le_total n xs.length with h | h
  · rw [Nat.min_eq_left h]
  · rw [Nat.min_eq_right h, List.take_of_length_le (Nat.le_refl _), List.take_of_length_le h]
theorem modp_len {α : Type} {f : α → Dat} {xs : List α} {i : Int} (h : xs ≠ []) : ModP i ((xs.map f).length : Int) := by
  have hl : 0 < xs.length := List.length_pos_iff.mpr h
  rw [List.length_map]
  exact (by omega : 0 < (xs.length : Int))
/-- the script: so many numbers, each of so many bits -/
structure Scr (ns : List Int) : Prop where
  len : ns.length ≤ 63
  bt : ∀ z ∈ ns, Bt 1048577 z
/-- a place of a list of like things -/
theorem at_map {α : Type} {f : α → Dat} {xs : List α} {j : Nat} {x : α} (h : xs[j]? = some x) : atI (xs.map f) (j : Int) = some (f x) := atI_nat (by rw [List.getElem?_map, h]; rfl)
theorem at_mapI {α : Type} {f : α → Dat} {xs : List α} {i : Int} {j : Nat} {x : α} (hi : i = (j : Int)) (h : xs[j]? = some x) : atI (xs.map f) i = some (f x) := by rw [hi]; exact at_map h
theorem at_mod {α : Type} {f : α → Dat} {xs : List α} (i : Int) (h : xs ≠ []) : ∃ x ∈ xs, atI (xs.map f) (i % ((xs.map f).length : Int)) = some (f x) := by
  have hl : 0 < xs.length := List.length_pos_iff.mpr h
  rw [List.length_map]
  have h0 := Int.emod_nonneg i (show (xs.length : Int) ≠ 0 by omega)
  have h1 := Int.emod_lt_of_pos i (show 0 < (xs.length : Int) by omega)
  have hj : (i % (xs.length : Int)).toNat < xs.length := by omega
  exact ⟨xs[(i % (xs.length : Int)).toNat], List.getElem_mem hj, at_mapI (j := (i % (xs.length : Int)).toNat) (by omega) (List.getElem?_eq_getElem hj)⟩
end DL
namespace DL
open PySem PySem.Spec PyProof.Rows L2
variable {K : PySem.W.Frag}

/-! ### loops by an invariant over slots -/
theorem for_at {g : DG} {b : DS} {κ : DEnds} (ds : List Dat) (I : Nat → List Sl → Prop)
    (step : ∀ (i : Nat) (d : Dat) (ρ : List Sl) (N : List Sl → Prop), ds[i]? = some d → I i ρ → (∀ ρ', I (i + 1) ρ' → N ρ') → g (.v d) ρ (fun ρ1 => b { κ with nx := N, ct := N, bk := κ.nx } ρ1)) (fin : ∀ ρ, I ds.length ρ → κ.nx ρ) :
    ∀ (k i : Nat) (ρ : List Sl), i + k = ds.length → I i ρ → sForL g b κ (ds.drop i) ρ
  | 0, i, ρ, hk, h => by
    have e : i = ds.length := by omega
    rw [e, List.drop_length]
    rw [e] at h
    exact fin ρ h
  | k + 1, i, ρ, hk, h => by
    have hi : i < ds.length := by omega
    rw [List.drop_eq_getElem_cons hi]
    exact step i _ ρ _ (List.getElem?_eq_getElem hi) h fun ρ' h' => for_at ds I step fin k (i + 1) ρ' (by omega) h'
theorem for_ind {g : DG} {b : DS} {κ : DEnds} {ds : List Dat} (I : Nat → List Sl → Prop) {ρ : List Sl} (h0 : I 0 ρ)
    (step : ∀ (i : Nat) (d : Dat) (ρ : List Sl) (N : List Sl → Prop), ds[i]? = some d → I i ρ → (∀ ρ', I (i + 1) ρ' → N ρ') → g (.v d) ρ (fun ρ1 => b { κ with nx := N, ct := N, bk := κ.nx } ρ1)) (fin : ∀ ρ, I ds.length ρ → κ.nx ρ) : sForL g b κ ds ρ := by
  have := for_at ds I step fin ds.length 0 ρ (by omega) h0
  simpa using this
/-- over a typed list -/
theorem for_map {α : Type} {f : α → Dat} {g : DG} {b : DS} {κ : DEnds} {xs : List α} (I : Nat → List Sl → Prop) {ρ : List Sl} (h0 : I 0 ρ)
    (step : ∀ (i : Nat) (x : α) (ρ : List Sl) (N : List Sl → Prop), xs[i]? = some x → I i ρ → (∀ ρ', I (i + 1) ρ' → N ρ') → g (.v (f x)) ρ (fun ρ1 => b { κ with nx := N, ct := N, bk := κ.nx } ρ1)) (fin : ∀ ρ, I xs.length ρ → κ.nx ρ) : sForL g b κ (xs.map f) ρ := by
  refine for_ind I h0 (fun i d ρ N hd h hn => ?_) (by rw [List.length_map]; exact fin)
  rw [List.getElem?_map] at hd
  obtain ⟨x, hx, rfl⟩ := Option.map_eq_some_iff.mp hd
  exact step i x ρ N hx h hn
/-- over range(0, n): the turn's number -/
theorem for_rng {lo : Int} {g : DG} {b : DS} {κ : DEnds} {n : Nat} (I : Nat → List Sl → Prop) {ρ : List Sl} (h0 : I 0 ρ)
    (step : ∀ (i : Nat) (ρ : List Sl) (N : List Sl → Prop), i < n → I i ρ → (∀ ρ', I (i + 1) ρ' → N ρ') → g (.v (.int (lo + (i : Int)))) ρ (fun ρ1 => b { κ with nx := N, ct := N, bk := κ.nx } ρ1)) (fin : ∀ ρ, I n ρ → κ.nx ρ) : sForL g b κ (rngD lo n) ρ := by
  refine for_map (f := fun (i : Nat) => Dat.int (lo + (i : Int))) (xs := List.range n) I h0 (fun i x ρ N hx h hn => ?_) (by rw [List.length_range]; exact fin)
  have hi : i < n := by
    by_cases hi : i < n
    · exact hi
    · rw [List.getElem?_eq_none (by rw [List.length_range]; omega)] at hx; exact nomatch hx
  rw [List.getElem?_range hi] at hx
  cases hx
  exact step i ρ N hi h hn
theorem for_rngC {lo c : Int} {g : DG} {b : DS} {κ : DEnds} {n : Nat} (I : Nat → List Sl → Prop) {ρ : List Sl} (h0 : I 0 ρ)
    (step : ∀ (i : Nat) (ρ : List Sl) (N : List Sl → Prop), i < n → I i ρ → (∀ ρ', I (i + 1) ρ' → N ρ') → g (.v (.int (lo + (i : Int) * c))) ρ (fun ρ1 => b { κ with nx := N, ct := N, bk := κ.nx } ρ1)) (fin : ∀ ρ, I n ρ → κ.nx ρ) : sForL g b κ (rngDC lo c n) ρ := by
  refine for_map (f := fun (i : Nat) => Dat.int (lo + (i : Int) * c)) (xs := List.range n) I h0 (fun i x ρ N hx h hn => ?_) (by rw [List.length_range]; exact fin)
  have hi : i < n := by
    by_cases hi : i < n
    · exact hi
    · rw [List.getElem?_eq_none (by rw [List.length_range]; omega)] at hx; exact nomatch hx
  rw [List.getElem?_range hi] at hx
  cases hx
  exact step i ρ N hi h hn
theorem while_at {c : DT} {b : DS} {κ : DEnds} (I : Nat → List Sl → Prop)
    (step : ∀ (n : Nat) (ρ : List Sl) (N : List Sl → Prop), I n ρ → (∀ m ρ', m < n → I m ρ' → N ρ') → c ρ (fun k => if k = true then b { κ with nx := N, ct := N, bk := κ.nx } ρ else κ.nx ρ) (fun nm => κ.ex nm ρ)) :
    ∀ (k n : Nat) (ρ : List Sl), n < k → I n ρ → wIter c b κ k ρ
  | 0, n, ρ, hk, h => (Nat.not_lt_zero _ hk).elim
  | k + 1, n, ρ, hk, h => step n ρ _ h fun m ρ' hm h' => while_at I step k m ρ' (by omega) h'
theorem while_ind {c : DT} {b : DS} {κ : DEnds} (I : Nat → List Sl → Prop) (n : Nat) {ρ : List Sl} (h0 : I n ρ)
    (step : ∀ (n : Nat) (ρ : List Sl) (N : List Sl → Prop), I n ρ → (∀ m ρ', m < n → I m ρ' → N ρ') → c ρ (fun k => if k = true then b { κ with nx := N, ct := N, bk := κ.nx } ρ else κ.nx ρ) (fun nm => κ.ex nm ρ)) :
    ∃ k, wIter c b κ k ρ := ⟨n + 1, while_at I step (n + 1) n ρ (by omega) h0⟩

theorem kb {κ : Rv → Prop} {b : Bool} (h : b = true) (k : κ (.v (.bl true))) : κ (.v (.bl b)) := by rw [h]; exact k

/-! ### comprehensions -/
theorem lc_at {g : DG} {t : DT} {e : DE} {ρ : List Sl} {κ : Rv → Prop} (ds : List Dat) (I : Nat → List Dat → Prop)
    (step : ∀ (i : Nat) (d : Dat) (acc : List Dat) (N : List Dat → Prop), ds[i]? = some d → I i acc → (∀ acc', I (i + 1) acc' → N acc') →
      g (.v d) ρ (fun ρ1 => t ρ1 (fun b => if b = true then e ρ1 (fun r => match frz1 r with
        | some x => acc.length < sizeLine ∧ N (acc ++ [x])
        | none => False) (fun _ => False) else N acc) (fun _ => False))) (fin : ∀ acc, I ds.length acc → κ (.n acc)) :
    ∀ (k i : Nat) (acc : List Dat), i + k = ds.length → I i acc → lcL g t e ρ κ acc (ds.drop i)
  | 0, i, acc, hk, h => by
    have e : i = ds.length := by omega
    rw [e, List.drop_length]
    rw [e] at h
    exact fin acc h
  | k + 1, i, acc, hk, h => by
    have hi : i < ds.length := by omega
    rw [List.drop_eq_getElem_cons hi]
    exact step i _ acc _ (List.getElem?_eq_getElem hi) h fun acc' h' => lc_at ds I step fin k (i + 1) acc' (by omega) h'
theorem lc_ind {g : DG} {t : DT} {e : DE} {ρ : List Sl} {κ : Rv → Prop} {ds : List Dat} (I : Nat → List Dat → Prop) (h0 : I 0 [])
    (step : ∀ (i : Nat) (d : Dat) (acc : List Dat) (N : List Dat → Prop), ds[i]? = some d → I i acc → (∀ acc', I (i + 1) acc' → N acc') →
      g (.v d) ρ (fun ρ1 => t ρ1 (fun b => if b = true then e ρ1 (fun r => match frz1 r with
        | some x => acc.length < sizeLine ∧ N (acc ++ [x])
        | none => False) (fun _ => False) else N acc) (fun _ => False))) (fin : ∀ acc, I ds.length acc → κ (.n acc)) : lcL g t e ρ κ [] ds := by
  have := lc_at ds I step fin ds.length 0 [] (by omega) h0
  simpa using this
theorem sz_ok {n : Nat} (h : n < 100000) : n < sizeLine := Nat.lt_of_lt_of_le h (by decide)
/-- [e for x in xs], e told by a function -/
theorem lc_map {α : Type} {f h : α → Dat} {g : DG} {e : DE} {ρ : List Sl} {κ : Rv → Prop} {xs : List α} (hl : xs.length ≤ 100000)
    (step : ∀ (x : α) (N : Rv → Prop), x ∈ xs → N (.v (h x)) → g (.v (f x)) ρ (fun ρ1 => e ρ1 N (fun _ => False))) (k : κ (.n (xs.map h))) : lcL g tYesD e ρ κ [] (xs.map f) := by
  refine lc_ind (fun i acc => acc = (xs.take i).map h) rfl (fun i d acc N hd ha hn => ?_) (fun acc ha => ?_)
  · rw [List.getElem?_map] at hd
    obtain ⟨x, hx, rfl⟩ := Option.map_eq_some_iff.mp hd
    have hi : i < xs.length := by
      by_cases hi : i < xs.length
      · exact hi
      · rw [List.getElem?_eq_none (by omega)] at hx; exact nomatch hx
    have step' := step x (fun r => match frz1 r with
        | some x => acc.length < sizeLine ∧ N (acc ++ [x])
        | none => False) (List.mem_of_getElem? hx) ⟨?_, ?_⟩
    · exact step'
    · rw [ha, List.length_map, List.length_take]; exact sz_ok (by omega)
    · refine hn _ ?_
      rw [ha, List.take_add_one, hx, List.map_append]; rfl
  · rw [ha, List.length_map, List.take_of_length_le (Nat.le_refl _)]; exact k
/-- item by item -/
def All2 {α β : Type} (R : α → β → Prop) (xs : List α) (ys : List β) : Prop := ys.length = xs.length ∧ ∀ (i : Nat) (x : α) (y : β), xs[i]? = some x → ys[i]? = some y → R x y
theorem lc_rel {α β : Type} {f : α → Dat} {h : β → Dat} {g : DG} {e : DE} {ρ : List Sl} {κ : Rv → Prop} {xs : List α} (R : α → β → Prop) (hl : xs.length ≤ 100000)
    (step : ∀ (x : α) (N : Rv → Prop), x ∈ xs → (∀ y, R x y → N (.v (h y))) → g (.v (f x)) ρ (fun ρ1 => e ρ1 N (fun _ => False))) (k : ∀ ys, All2 R xs ys → κ (.n (ys.map h))) : lcL g tYesD e ρ κ [] (xs.map f) := by
  refine lc_ind (fun i acc => ∃ ys : List β, acc = ys.map h ∧ ys.length = min i xs.length ∧ ∀ (j : Nat) (x : α) (y : β), xs[j]? = some x → ys[j]? = some y → R x y) ⟨[], rfl, by simp, fun j x y _ h => by simp at h⟩ (fun i d acc N hd ha hn => ?_) (fun acc ha => ?_)
  · rw [List.getElem?_map] at hd
    obtain ⟨x, hx, rfl⟩ := Option.map_eq_some_iff.mp hd
    have hi : i < xs.length := by
      by_cases hi : i < xs.length
      · exact hi
      · rw [List.getElem?_eq_none (by omega)] at hx; exact nomatch hx
    obtain ⟨ys, rfl, hy, hr⟩ := ha
    have step' := step x (fun r => match frz1 r with
        | some x => (ys.map h).length < sizeLine ∧ N (ys.map h ++ [x])
        | none => False) (List.mem_of_getElem? hx) (fun y hxy => ⟨?_, ?_⟩)
    · exact step'
    · rw [List.length_map]; exact sz_ok (by omega)
    · refine hn _ ⟨ys ++ [y], by rw [List.map_append]; rfl, by rw [List.length_append, hy, List.length_singleton]; omega, fun j x' y' h1 h2 => ?_⟩
      by_cases hj : j < ys.length
      · rw [List.getElem?_append_left hj] at h2
        exact hr j x' y' h1 h2
      · have hj2 : j = ys.length := by
          by_cases hj3 : j = ys.length
          · exact hj3
          · rw [List.getElem?_eq_none (by rw [List.length_append, List.length_singleton]; omega)] at h2; exact nomatch h2
        have : j = i := by omega
        subst this
        rw [hj2, List.getElem?_append_right (Nat.le_refl _), Nat.sub_self] at h2
        rw [hx] at h1
        cases h1
        have : y = y' := by simpa using h2
        rw [← this]; exact hxy
  · obtain ⟨ys, rfl, hy, hr⟩ := ha
    rw [List.length_map] at hy
    exact k ys ⟨by omega, hr⟩

/-! ### the cells of a script -/
structure Cls (cs : List Int) : Prop where
  ne : cs ≠ []
  len : cs.length ≤ 60
  bt : ∀ z ∈ cs, Bt 1048577 z
theorem Cls.ix {cs : List Int} (h : Cls cs) (i : Int) {κ : Dat → Prop} (k : ∀ z, Bt 1048577 z → κ (.int z)) : onS (atI (cs.map Dat.int) (i % ((cs.map Dat.int).length : Int))) κ := by
  obtain ⟨z, hz, e⟩ := at_mod (f := Dat.int) i h.ne
  exact onS_some e (k z (h.bt z hz))
theorem Cls.one : Cls [0] := ⟨by simp, by simp, fun z hz => by rw [List.mem_singleton.mp hz]; exact (Bt.lit (k := 1) rfl).mono (by decide)⟩
theorem Cls.take {ns : List Int} (hs : Scr ns) (h : ns.take 60 ≠ []) : Cls (ns.take 60) := ⟨h, by rw [List.length_take]; omega, fun z hz => hs.bt z (List.mem_of_mem_take hz)⟩
theorem Cls.modp {cs : List Int} (h : Cls cs) {i : Int} : ModP i ((cs.map Dat.int).length : Int) := modp_len h.ne
theorem Cls.rng {cs : List Int} (h : Cls cs) : -(2 ^ 62) ≤ ((cs.map Dat.int).length : Int) ∧ ((cs.map Dat.int).length : Int) < 2 ^ 62 := by
  have := h.len
  rw [List.length_map]; omega
/-- cells = script[:60]; if len(cells) == 0: cells = [0] -/
theorem cells_go {T : DS} {κ : DEnds} {ns : List Int} {s1 : Sl} {ρ : List Sl} (hs : Scr ns) (h : ∀ cs, Cls cs → T κ (.br (ns.map Dat.int) :: .ow (cs.map Dat.int) :: ρ)) :
    sSeq (sAsg (dCut (dVar 0) (oNone) (oSome (dC (.int 60)))) (gN 1)) (sSeq (sIf (tVal (dEq (dB kLen (aCons (dVar 1) (aNil))) (dC (.int 0)))) (sAsg (dLst (aCons (dC (.int 0)) (aNil))) (gN 1)) (sNil)) T) κ (.br (ns.map Dat.int) :: s1 :: ρ) := by
  have e : cutD (ns.map Dat.int) none (some 60) = (ns.take 60).map Dat.int := by rw [List.map_take]; exact cutD_take _ 60
  show (sSeq (sIf (tVal (dEq (dB kLen (aCons (dVar 1) (aNil))) (dC (.int 0)))) (sAsg (dLst (aCons (dC (.int 0)) (aNil))) (gN 1)) (sNil)) T) κ (.br (ns.map Dat.int) :: .ow (cutD (ns.map Dat.int) none (some 60)) :: ρ)
  rw [e]
  refine ⟨⟨rfl, rfl⟩, ifEq (fun h0 => ?_) (fun h0 => ?_)⟩
  · exact ⟨rfl, h [0] Cls.one⟩
  · exact h _ (Cls.take hs fun z => h0 (by rw [z]; rfl))
/-- a number of so many bits of a number of so many -/
@[irreducible] def S_num (B k : Nat) : Fsp := fun ds κ _ => ∃ c : Int, ds = [.int c] ∧ Bt B c ∧ ∀ z, Bt k z → κ (.v (.int z))
theorem S_num_go {B k : Nat} {c : Int} {κ : Rv → Prop} {ε : Str → Prop} (h : Bt B c) (q : ∀ z, Bt k z → κ (.v (.int z))) : S_num B k [.int c] κ ε := by unfold S_num; exact ⟨c, rfl, h, q⟩
theorem S_num.out {B k : Nat} {ds : List Dat} {κ : Rv → Prop} {ε : Str → Prop} (h : S_num B k ds κ ε) : ∃ c : Int, ds = [.int c] ∧ Bt B c ∧ ∀ z, Bt k z → κ (.v (.int z)) := by unfold S_num at h; exact h
/-! ### sums over lists -/
def sm {α : Type} (f : α → Int) : List α → Int
  | [] => 0
  | x :: xs => f x + sm f xs
theorem sm_append {α : Type} (f : α → Int) : ∀ xs ys : List α, sm f (xs ++ ys) = sm f xs + sm f ys
  | [], ys => by simp [sm]
  | x :: xs, ys => by
    show f x + sm f (xs ++ ys) = f x + sm f xs + sm f ys
    rw [sm_append f xs ys]; omega
theorem sm_take {α : Type} (f : α → Int) {xs : List α} {i : Nat} {x : α} (h : xs[i]? = some x) : sm f (xs.take (i + 1)) = sm f (xs.take i) + f x := by
  rw [List.take_add_one, h, sm_append]
  show _ + (f x + 0) = _
  omega
theorem sm_rev {α : Type} (f : α → Int) : ∀ xs : List α, sm f xs.reverse = sm f xs
  | [] => rfl
  | x :: xs => by
    rw [List.reverse_cons, sm_append, sm_rev f xs]
    show _ + (f x + 0) = f x + _
    omega
theorem sm_all {α : Type} (f : α → Int) (xs : List α) : sm f (xs.take xs.length) = sm f xs := by rw [List.take_length]
/-! ### range(lo, hi, c) -/
theorem rng3_go {lo hi c : Int} {κ : List Dat → Prop} (h1 : -(2 ^ 61) ≤ lo) (h2 : lo < 2 ^ 61) (h3 : -(2 ^ 61) ≤ hi) (h4 : hi < 2 ^ 61) (hc : 0 < c) (hc2 : c < 1000000) (k : κ (rngDC lo c (rN lo hi c))) : ∃ n, RgC lo hi c n ∧ κ (rngDC lo c n) := ⟨_, rgC_up h1 h2 h3 h4 hc hc2, k⟩
theorem rN_lt {lo hi c : Int} (hc : 0 < c) {i : Nat} (h : i < rN lo hi c) : lo + (i : Int) * c < hi := by
  unfold rN at h
  split at h
  · rename_i hlt
    have h0 : 0 ≤ (hi - lo - 1) / c := Int.ediv_nonneg (by omega) (by omega)
    have h1 : (i : Int) ≤ (hi - lo - 1) / c := by omega
    have h2 := Int.mul_le_of_le_ediv hc h1
    omega
  · omega
theorem rN_le {lo hi c : Int} (hc : 0 < c) {n : Nat} (h : hi ≤ lo + (n : Int) * c) : rN lo hi c ≤ n := by
  rcases Nat.lt_or_ge n (rN lo hi c) with z | z
  · have := rN_lt hc z
    omega
  · exact z
theorem Scr.len' {ns : List Int} (h : Scr ns) : (ns.map Dat.int).length ≤ 63 := by rw [List.length_map]; exact h.len
/-- one more at the end -/
theorem map_snoc {α : Type} (f : α → Dat) (xs : List α) (x : α) : xs.map f ++ [f x] = (xs ++ [x]).map f := by rw [List.map_append]; rfl
theorem all_snoc {α : Type} {P : α → Prop} {xs : List α} {x : α} (h : ∀ y ∈ xs, P y) (hx : P x) : ∀ y ∈ xs ++ [x], P y := fun y hy => by
  rcases List.mem_append.mp hy with z | z
  · exact h y z
  · rw [List.mem_singleton.mp z]; exact hx
theorem szm {α : Type} {f : α → Dat} {xs : List α} (h : xs.length < 100000) : (xs.map f).length < sizeLine := by rw [List.length_map]; exact sz_ok h
/-! ### the same of a list that is equal to a typed one -/
theorem lc_map' {α : Type} {f h : α → Dat} {g : DG} {e : DE} {ρ : List Sl} {κ : Rv → Prop} {ds : List Dat} (xs : List α) (eq : ds = xs.map f) (hl : xs.length ≤ 100000)
    (step : ∀ (x : α) (N : Rv → Prop), x ∈ xs → N (.v (h x)) → g (.v (f x)) ρ (fun ρ1 => e ρ1 N (fun _ => False))) (k : κ (.n (xs.map h))) : lcL g tYesD e ρ κ [] ds := by
  rw [eq]; exact lc_map hl step k
theorem lc_rel' {α β : Type} {f : α → Dat} {h : β → Dat} {g : DG} {e : DE} {ρ : List Sl} {κ : Rv → Prop} {ds : List Dat} (xs : List α) (eq : ds = xs.map f) (R : α → β → Prop) (hl : xs.length ≤ 100000)
    (step : ∀ (x : α) (N : Rv → Prop), x ∈ xs → (∀ y, R x y → N (.v (h y))) → g (.v (f x)) ρ (fun ρ1 => e ρ1 N (fun _ => False))) (k : ∀ ys, All2 R xs ys → κ (.n (ys.map h))) : lcL g tYesD e ρ κ [] ds := by
  rw [eq]; exact lc_rel R hl step k
theorem for_map' {α : Type} {f : α → Dat} {g : DG} {b : DS} {κ : DEnds} {ds : List Dat} (xs : List α) (eq : ds = xs.map f) (I : Nat → List Sl → Prop) {ρ : List Sl} (h0 : I 0 ρ)
    (step : ∀ (i : Nat) (x : α) (ρ : List Sl) (N : List Sl → Prop), xs[i]? = some x → I i ρ → (∀ ρ', I (i + 1) ρ' → N ρ') → g (.v (f x)) ρ (fun ρ1 => b { κ with nx := N, ct := N, bk := κ.nx } ρ1)) (fin : ∀ ρ, I xs.length ρ → κ.nx ρ) : sForL g b κ ds ρ := by
  rw [eq]; exact for_map I h0 step fin
theorem cutD_nat (ds : List Dat) {i j : Nat} {a b : Int} (ea : a = (i : Int)) (eb : b = (j : Int)) (hij : i ≤ j) (hj : j ≤ ds.length) : cutD ds (some a) (some b) = (ds.drop i).take (j - i) := by
  subst ea eb
  unfold cutD
  rw [HT.sIx_nat, HT.sIx_nat, Nat.min_eq_left hj, Nat.min_eq_left (Nat.le_trans hij hj)]
theorem cutD_map {α : Type} (f : α → Dat) (xs : List α) {i j : Nat} {a b : Int} (ea : a = (i : Int)) (eb : b = (j : Int)) (hij : i ≤ j) (hj : j ≤ xs.length) : cutD (xs.map f) (some a) (some b) = ((xs.drop i).take (j - i)).map f := by
  rw [cutD_nat _ ea eb hij (by rw [List.length_map]; exact hj), List.map_take, List.map_drop]
theorem All2.mem {α β : Type} {R : α → β → Prop} {P : β → Prop} {xs : List α} {ys : List β} (h : All2 R xs ys) (hp : ∀ x ∈ xs, ∀ y, R x y → P y) : ∀ y ∈ ys, P y := fun y hy => by
  obtain ⟨i, hi⟩ := List.getElem?_of_mem hy
  have hl : i < xs.length := by
    have : i < ys.length := by
      by_cases z : i < ys.length
      · exact z
      · rw [List.getElem?_eq_none (by omega)] at hi; exact nomatch hi
    rw [← h.1]; exact this
  have hx : xs[i]? = some xs[i] := List.getElem?_eq_getElem hl
  exact hp _ (List.getElem_mem hl) y (h.2 i _ y hx hi)
end DL
/-! list comprehensions that an exception of the element may leave -/
namespace DL
open PySem PySem.Spec PyProof.Rows L2
section
variable {M : Model} {A : Around} {E : Value → Shared → Prop} {s : Shared} {env : Env}
/-- what is asked of the end of a comprehension's block, whose surroundings are ce -/
def blkEnd (M : Model) (A : Around) (E : Value → Shared → Prop) (use : Option (Value → Sem Unit)) (Q : Value → Shared → Prop) (acc : Value) (ce : Env) : Result → Shared → Prop
  | .ok f, s' => compPost M A E use Q acc ce.locals (.ok f) s'
  | .error x, s' => ∃ m, s'.heap.Ns ce.locals m ∧ ∀ g, Heap.SameBut ce.locals s'.heap g →
      wpAny M A (passOn "comprehension.variables-let-go" x ce : Sem Value) (fun _ _ => False) E { s' with heap := g }
/-- a comprehension, its own block's end told for just the surroundings that it has -/
theorem comp_run {e : Expr} {sc : Scope} {pos : Pos} {mk first : Sem Value} {c : Comprehension} {cs : List Comprehension} {clo : List (Str × Addr)} {use : Option (Value → Sem Unit)} {Q : Value → Shared → Prop}
    (h1 : clausesOf e = c :: cs) (h2 : ∀ x, foldedSetIterable c.iter env x = pure x) (h3 : closureFor sc env = pure clo) (h4 : sc.kind = .function)
    (h5 : ∀ x ∈ sc.names, x.2 = .local → sc.names.lookup x.1 = some .local)
    (h : wpAny M A first (fun x u1 => wpAny M A (pyIter x) (fun it u2 => wpAny M A mk (fun acc u3 => wpAny M A (newFunctionEnv sc env.globals clo [] env.qual none .none (some env)) (fun ce u4 =>
      codeAny M A (.compStart e 0 it acc { ce with scope := relabel sc env }) (blkEnd M A E use Q acc { ce with scope := relabel sc env }) u4) E u3) E u2) E u1) E s) :
    wpAny M A (comprehension e sc env pos mk false first use) Q E s := by
  unfold comprehension
  rw [h3, h1]
  refine wpAny_bind (wpAny_mono h (fun x u1 k1 => ?_) fun _ _ z => z)
  refine wpAny_bind (wpAny_standAt (wpAny_bind (wpAny_of_eq (h2 x) (wpAny_bind (wpAny_holding (wpAny_mono k1 (fun it u2 k2 => ?_) fun _ _ z => z))))))
  refine wpAny_standIf (wpAny_bind (wpAny_mono k2 (fun acc u3 k3 => ?_) fun _ _ z => z))
  refine wpAny_bind (wpAny_pure (wpAny_bind (wpAny_mono k3 (fun ce u4 k4 => ?_) fun _ _ z => z)))
  dsimp only
  have kl : ∀ x ∈ sc.names, x.2 = .local → Env.kindOf { ce with scope := relabel sc env } x.1 = some .local := fun x hx hl => lookup_relabel_local (h5 x hx hl)
  have v1 : ∀ x ∈ (sc.names.filter fun x => (x.2 == .local || x.2 == .cell) && x.1 != (".0" : Str)).reverse, x.2 = .local → Env.kindOf { ce with scope := relabel sc env } x.1 = some .local :=
    fun x hx => kl x (List.mem_filter.mp (List.mem_reverse.mp hx)).1
  have v2 : ∀ x ∈ (sc.names.filter fun x => (x.2 == .local || x.2 == .cell) && x.1 != (".0" : Str)).reverse.drop 1 ++ (sc.names.filter fun x => (x.2 == .local || x.2 == .cell) && x.1 != (".0" : Str)).reverse.take 1,
      x.2 = .local → Env.kindOf { ce with scope := relabel sc env } x.1 = some .local := fun x hx =>
    (List.mem_append.mp hx).elim (fun z => v1 x (List.mem_of_mem_drop z)) fun z => v1 x (List.mem_of_mem_take z)
  refine wpAny_holding (wpAny_bind (wpAny_attempt (wpAny_holding (wpAny_run (codeAny_mono k4 fun r u hr => ?_)))))
  cases r with
  | ok f =>
    cases use with
    | none =>
      obtain ⟨m, hn, hr⟩ := hr
      exact wpAny_bind (wpAny_holding (wpAny_comp_letGo (cenv := { ce with scope := relabel sc env }) h4 _ u m v1 hn fun g m' _ sb => wpAny_pure (hr g sb)))
    | some us =>
      refine wpAny_bind (wpAny_rule (wpAny_bind (wpAny_holding (wpAny_mono hr (fun _ u' hr' => ?_) fun _ _ z => z))))
      obtain ⟨m, hn, hr'⟩ := hr'
      exact wpAny_bind (wpAny_comp_letGo (cenv := { ce with scope := relabel sc env }) h4 _ u' m v2 hn fun g m' _ sb => wpAny_pure (hr' g sb))
  | error x =>
    obtain ⟨m, hn, hr⟩ := hr
    refine wpAny_bind (wpAny_holding (wpAny_comp_letGo (cenv := { ce with scope := relabel sc env }) h4 _ u m ?_ hn fun g m' _ sb => ?_))
    · cases use with
      | none => exact v1
      | some us => exact v1
    · exact wpAny_mono (hr g sb) (fun _ _ f => f.elim) fun _ _ z => z
/-- whatever frame noted it last, this one notes it -/
theorem note_any {Z : Obj → Prop} {B : Heap} {outer : List Env} {L a : Addr} {fl : Value} {Q : Unit → Shared → Prop} (hZ : HandSPX.Steady Z) (hfr : A.frames = some (env :: outer)) (hf : env.frame = some L)
    (st : B.StaysIn s.heap) (ba : B.get? a = none) (ff : s.heap.FunFrames B (env :: outer)) (t : HandSPX.TracedZ s.heap B a Z fl) (ne : (fl == rawInt L) = false)
    (hQ : ∀ g, HandSPX.HeldZ B (env :: outer) a Z L g → s.heap.UpToSlots g → Q () { s with heap := g }) : wpAny M A (noteFrame (.ref a) env) Q E s := by
  obtain ⟨oe, vs, T, oT, ts, ea, za, da, f1, bT, nTa, eT, dT, f3⟩ := t
  unfold noteFrame
  simp only [hf]
  refine wpAny_bind (wpAny_field ea da f1 ?_)
  rw [if_pos (show (Value.ref T != Value.none) = true by simp)]
  refine wpAny_bind (wpAny_field eT dT f3 ?_)
  rw [if_neg (by rw [ne]; exact Bool.false_ne_true)]
  refine wpAny_bind (wpAny_setField eT dT (Array.getElem?_eq_some_iff.mp f3).1 ?_)
  have oth : ∀ b, b ≠ T → (s.heap.update T (Obj.mapFields (·.setIfInBounds 3 Value.none))).get? b = s.heap.get? b := fun b hb => Heap.get?_update_other _ _ fun z => hb z.symm
  have nrec : ∀ b o, s.heap.get? b = some o → (∀ vs, o.data ≠ .fields vs) → b ≠ T := fun b o eb nd z => by
    subst z
    rw [eT] at eb
    cases eb
    exact nd _ dT
  have ks : B.StaysIn (s.heap.update T (Obj.mapFields (·.setIfInBounds 3 Value.none))) := fun b o eb => by
    rw [oth b fun z => by rw [z, bT] at eb; cases eb]
    exact st b o eb
  refine HandSPX.wpAny_entryZ hZ hfr (ff.of_keeps fun b o eb nd => ⟨o, by rw [oth b (nrec b o eb nd)]; exact eb, rfl⟩) hf (by rw [oth a fun z => nTa z.symm]; exact ea) ks ba da (Array.getElem?_eq_some_iff.mp f1).1 za fun g ng => ?_
  obtain ⟨y1, y2, y3, y4⟩ := ng
  exact hQ g ⟨y1, ba, y2, y3⟩ fun b o eb nd => y4 b o (by rw [oth b (nrec b o eb nd)]; exact eb) nd
end

theorem note_frame {e : Value} {c c' : Env} (h : c.frame = c'.frame) : noteFrame e c = noteFrame e c' := by
  unfold noteFrame PySem.frameOf
  rw [h]
section
variable {X : Cx}
/-- an exception in the air of the block is one in ours, when the block has let its names go -/
theorem blk_air {pins : List (Addr × Obj)} {σ : L2.St} {H3 : Hp} {s3 : Shared} {scope : Scope} {ce : Env} {fp : List Addr} {pn : List (Addr × Obj)} {xe : Value → Shared → Prop} {W : WX} {use : Option (Value → Sem Unit)} {Q : Value → Shared → Prop} {acc : Value}
    (hs : X.stack = X.env :: X.outer) (hf : X.env.frame = some X.env.locals) (tk : Takes X W) (I3 : Inv X pins σ H3 s3) (f3 : ∀ b ∈ fp, FpOk X pins H3 b) (hL : ce.locals = s3.heap.objs.size) (hF : ce.frame = X.env.frame) {u : Value} {s' : Shared}
    (x : XE ((X.blk s3 H3 scope ce fp).tr pn xe) (fun cls d _ H' => W cls d σ H') u s') : notedBy (model X.prog X.w) X.A ce (fun e s' => blkEnd (model X.prog X.w) X.A X.xe use Q acc ce (.error e) s') u s' := by
  obtain ⟨a, B, sI, pins', σ', H', cls, d, rfl, I', nb, up, sky, na, os, ag, w⟩ := x
  have nb : ∀ b o, sI.heap.get? b = some o → b ∉ frs X.stack → B.get? b = some o := nb
  have sky : Sky B X.stack a (Zc cls d) ce.locals s'.heap := sky
  have w : W cls d σ H' := w
  have base : Un (frs X.stack) fp H3 H' s3.heap sI.heap := I'.base
  have hfr : X.A.frames = some (X.env :: X.outer) := by rw [I3.ok.frames, hs]
  have lt := I3.lt
  have nC : H' ce.locals = none := I'.free
  obtain ⟨m, hm, _⟩ := I'.loc
  have hm : sI.heap.Ns ce.locals m := hm
  show wpAny _ _ (noteFrame (.ref a) ce) _ _ _
  rw [note_frame hF]
  rw [hs] at sky
  -- noted
  have go : ∀ g1, HandSPX.HeldZ B (X.env :: X.outer) a (Zc cls d) X.env.locals g1 → s'.heap.UpToSlots g1 → blkEnd (model X.prog X.w) X.A X.xe use Q acc ce (.error (.ref a)) { s' with heap := g1 } := by
    intro g1 held up1
    refine ⟨m, (up.trans up1).ns hm, fun g2 sb => ?_⟩
    have sb2 : ∀ b, b ≠ ce.locals → g2.get? b = g1.get? b := sb.2
    obtain ⟨st, ba, ff, oe, vs, T, oT, ts, ea, za, da, f1, bT, nTa, eT, dT, f3'⟩ := held
    obtain ⟨oC, es, ep, eC, rC⟩ := (up.trans up1).ns hm
    have dC : ∀ vs, oC.data ≠ .fields vs := fun vs z => by rw [rC.1] at z; exact nomatch z
    have aC : a ≠ ce.locals := fun z => by rw [z, eC] at ea; cases ea; exact dC _ da
    have TC : T ≠ ce.locals := fun z => by rw [z, eC] at eT; cases eT; exact dC _ dT
    have frC : ∀ b ∈ frs X.stack, b ≠ ce.locals := fun b hb z => by
      obtain ⟨_, o, e, _⟩ := I3.stack.mem hb
      have := Heap.lt_size e
      rw [z, hL] at this
      exact Nat.lt_irrefl _ this
    have h2 : ∀ b o, (PySem.W.hideAll B [ce.locals]).get? b = some o → B.get? b = some o ∧ b ≠ ce.locals := fun b o e => ⟨PySem.W.of_hideAll _ e, fun z => by rw [z, PySem.W.hideAll_none _ (by simp)] at e; exact nomatch e⟩
    have h2' : ∀ b o, B.get? b = some o → b ≠ ce.locals → (PySem.W.hideAll B [ce.locals]).get? b = some o := fun b o e n => PySem.W.hideAll_get _ e (by simp [n])
    have hn : ∀ b, B.get? b = none → (PySem.W.hideAll B [ce.locals]).get? b = none := fun b e => by
      cases q : (PySem.W.hideAll B [ce.locals]).get? b with
      | none => rfl
      | some o => rw [(h2 b o q).1] at e; exact nomatch e
    have st2 : (PySem.W.hideAll B [ce.locals]).StaysIn g2 := fun b o e => by
      obtain ⟨e1, n⟩ := h2 b o e
      rw [sb2 b n]
      exact st b o e1
    have ff2 : g2.FunFrames (PySem.W.hideAll B [ce.locals]) (X.env :: X.outer) := by
      refine funFrames_none (base := B) (B := PySem.W.hideAll B [ce.locals]) ?_ fun b hb => hn b (ff.mem hb).1
      have key : ∀ l : List Env, (∀ b ∈ frs l, b ≠ ce.locals) → g1.FunFrames B l → g2.FunFrames B l := by
        intro l
        induction l with
        | nil => exact fun _ _ => trivial
        | cons e l ih =>
          intro hl hff
          obtain ⟨k1, ⟨L, o, q1, q2, q3, q4⟩, k2⟩ := hff
          refine ⟨k1, ⟨L, o, q1, q2, ?_, q4⟩, ih (fun b hb => hl b ?_) k2⟩
          · rw [sb2 L (hl L (List.mem_filterMap.mpr ⟨e, List.mem_cons_self, q1⟩))]
            exact q3
          · obtain ⟨x, hx, q⟩ := List.mem_filterMap.mp hb
            exact List.mem_filterMap.mpr ⟨x, List.mem_cons_of_mem _ hx, q⟩
      exact key _ (fun b hb => frC b (by rw [hs]; exact hb)) ff
    have held2 : HandSPX.HeldZ (PySem.W.hideAll B [ce.locals]) (X.env :: X.outer) a (Zc cls d) X.env.locals g2 :=
      ⟨st2, hn a ba, ff2, oe, vs, T, oT, ts, by rw [sb2 a aC]; exact ea, za, da, f1, hn T bT, nTa, by rw [sb2 T TC]; exact eT, dT, f3'⟩
    have e2a : g2.get? a = some oe := by rw [sb2 a aC]; exact ea
    unfold PySem.passOn
    refine wpAny_bind (wpAny_field (s := { s' with heap := g2 }) e2a da f1 ?_)
    rw [if_neg (show ¬ (Value.ref T == Value.none) = true by simp)]
    rw [hF, hf]
    refine wpAny_bind (HandSPX.setFlight_onZ (s := { s' with heap := g2 }) held2 fun g3 held3 up3 => ?_)
    refine wpAny_throw (tk _ _ ?_)
    -- the state without the exception
    obtain ⟨G, r1, r2⟩ := restrict g3 fun b => ((PySem.W.hideAll B [ce.locals]).get? b).isSome || decide (b ∈ frs X.stack)
    have st3 : (PySem.W.hideAll B [ce.locals]).StaysIn g3 := held3.1
    have gB : ∀ b o, (PySem.W.hideAll B [ce.locals]).get? b = some o → G.get? b = some o := fun b o e => by
      rw [r1 b (by simp [e])]
      exact st3 b o e
    have gF : ∀ b, b ∈ frs X.stack → G.get? b = g3.get? b := fun b hb => r1 b (by simp [hb])
    have og : ∀ b o, G.get? b = some o → g3.get? b = some o ∧ (((PySem.W.hideAll B [ce.locals]).get? b).isSome = true ∨ b ∈ frs X.stack) := fun b o e => by
      cases q : (((PySem.W.hideAll B [ce.locals]).get? b).isSome || decide (b ∈ frs X.stack)) with
      | false => rw [r2 b q] at e; exact nomatch e
      | true =>
        rw [r1 b q] at e
        exact ⟨e, by simpa [Bool.or_eq_true] using q⟩
    have lt3 : ∀ b o, s3.heap.get? b = some o → b ≠ ce.locals := fun b o e z => by
      have := Heap.lt_size e
      rw [z, hL] at this
      exact Nat.lt_irrefl _ this
    have slot : ∀ b o, b ∈ frs X.stack → sI.heap.get? b = some o → (∀ vs, o.data ≠ .fields vs) → ∃ sl, G.get? b = some { o with slots := sl } := fun b o hb e nd => by
      obtain ⟨sl, q⟩ := (up.trans up1) b o e nd
      rw [← sb2 b (frC b hb)] at q
      obtain ⟨sl2, q2⟩ := up3 b _ q nd
      exact ⟨sl2, by rw [gF b hb]; exact q2⟩
    have ndF : ∀ b o, b ∈ frs X.stack → s3.heap.get? b = some o → ∀ vs, o.data ≠ .fields vs := fun b o hb e => by
      obtain ⟨_, o', e', hd⟩ := I3.stack.mem hb
      rw [e] at e'
      cases e'
      exact hd
    have un : Un (frs X.stack) fp H3 H' s3.heap G := by
      refine ⟨fun b o e n hb hx => ?_, fun b o e n hb hx => ?_, base.free, fun b o e hx => ?_, base.tups, base.frzs, base.tbls⟩
      · exact gB b o (h2' b o (nb b o (base.keep b o e n hb hx) hb) (lt3 b o e))
      · obtain ⟨sl, q⟩ := base.slot b o e n hb hx
        obtain ⟨sl2, q2⟩ := slot b _ hb q (ndF b o hb e)
        exact ⟨sl2, q2⟩
      · obtain ⟨o', q⟩ := base.there b o e hx
        by_cases hb : b ∈ frs X.stack
        · obtain ⟨sl, q'⟩ := base.slot b o e (I3.stkFree b hb) hb hx
          obtain ⟨sl2, q2⟩ := slot b _ hb q' (ndF b o hb e)
          exact ⟨_, q2⟩
        · exact ⟨o', gB b o' (h2' b o' (nb b o' q hb) (lt3 b o e))⟩
    have hokB : HOk X.prog X.w H' B := I'.inGround nb
    have hok2 : HOk X.prog X.w H' (PySem.W.hideAll B [ce.locals]) := fun b v q =>
      (hokB b v q).stay (fun c z hc e => h2' c z e fun y => by
        subst y
        rcases hc with hc | hc
        · rw [hc, q] at nC; exact nomatch nC
        · rw [hc] at nC; exact nomatch nC) (fun _ e => e) fun _ _ e => e
    have J := I3.call (ch := fp) (h' := G) (g' := s'.gens) (t' := s'.toks) (d' := s'.drawn) un (hok2.kept gB) ag fun b hb => ⟨(f3 b hb).2.2.2.1, (f3 b hb).2.1, (f3 b hb).2.2.2.2.1, (f3 b hb).2.2.2.2.2⟩
    refine ⟨a, PySem.W.hideAll B [ce.locals], _, pins, σ, H', cls, d, rfl, J, fun b o e hb => ?_, Heap.UpToSlots.of_keeps fun b o e => (og b o e).1, .inr (.inr (by rw [hs]; exact held3)), na, os.trans I'.os, ag, w⟩
    obtain ⟨e', h⟩ := og b o e
    rcases h with h | h
    · obtain ⟨o', q⟩ := Option.isSome_iff_exists.mp h
      have z := st3 b o' q
      rw [e'] at z
      cases z
      exact q
    · exact absurd h hb
  have nl : ∀ fl : Value, (fl = .none ∨ fl = rawInt ce.locals) → (fl == rawInt X.env.locals) = false := fun fl h => by
    rcases h with rfl | rfl
    · simp [rawInt]
    · rw [hL]
      have n : ¬ s3.heap.objs.size = X.env.locals := Nat.ne_of_gt lt
      simp [rawInt]
      exact fun e => n (Int.ofNat_inj.mp e)
  rcases sky with ⟨hB, hn, hl, oe, vs, he, hz, hd, h1⟩ | ⟨hB, hn, hl, t⟩ | ⟨hB, hn, hl, t⟩
  · exact HandSPX.look_newZ Zc.steady hfr hl hf he hB hn hd h1 hz go
  · exact note_any Zc.steady hfr hf hB hn hl t (nl _ (.inl rfl)) go
  · exact note_any Zc.steady hfr hf hB hn hl t (nl _ (.inr rfl)) go
/-- [elt for tg in iter if ..], the element may raise -/
theorem lcX_core {pins : List (Addr × Obj)} {s : Shared} {σ : L2.St} {H : Hp} {Q : VK} {elt tg iter : Expr} {ifs : List Expr} {scope : Scope} {own : List (Str × Nat)} {pos pos' : Pos} {wi : TI} {g : TG} {tt : TT} {te : WX → TE} {use : Option (Value → Sem Unit)} {Qf : Value → Shared → Prop} {W : WX}
    (hs : X.stack = X.env :: X.outer) (hf : X.env.frame = some X.env.locals) (tk : Takes X W) (hc : X.calm = true) (hN : X.N.Nodup) (I : Inv X pins σ H s) (hi : PI X tg iter wi) (ok : BlkOk X.N X.env.scope scope own)
    (hg : ∀ s H C cl fp, PG (X.blk s H scope (compEnvC scope cl C X.env) fp) tg g) (ht : ∀ s H C cl fp, PTs (X.blk s H scope (compEnvC scope cl C X.env) fp) ifs tt)
    (he : ∀ s H C cl fp (V : WX) (pn : List (Addr × Obj)) (xe : Value → Shared → Prop), Takes ((X.blk s H scope (compEnvC scope cl C X.env) fp).tr pn xe) V → PassesOwn (model X.prog X.w) X.A (compEnvC scope cl C X.env) xe → PE ((X.blk s H scope (compEnvC scope cl C X.env) fp).tr pn xe) elt (te V))
    (hfs : ∀ x, foldedSetIterable iter X.env x = pure x) (h : tLc wi g tt (te fun cls d _ H' => W cls d σ H') (own.map (·.2)) σ H Q)
    (hRR : ∀ D C s' m H', Inv X pins σ H' s' → Q (.ref D) H' → s'.heap.Ns C m → FpOk X pins H' C → compPost (model X.prog X.w) X.A X.xe use Qf (.ref D) C (.ok .next) s') :
    wpAny (model X.prog X.w) X.A (comprehension (.ListComp elt [⟨tg, iter, ifs, 0⟩] scope pos) scope X.env pos' (newList []) false (eval iter X.env) use) Qf X.xe s := by
  have fre : ∀ y ∈ scope.names, y.2 = .free → ∃ c, X.env.cells.lookup y.1 = some c := fun y hy e => (ok.free y hy e).elim (fun k => I.ok.has _ (.inl k)) fun k => I.ok.has _ (.inr k)
  refine comp_run (use := use) rfl hfs (closure_ok fre) ok.kind (fun y hy e => by rw [ok.uniq y hy, e]) (thn (hi.run pins s σ H _ I h) fun xv u1 hx => thn hx fun itv u2 z2 => ?_)
  obtain ⟨it, its, atK, It_, K2, e, J2, Tr, a2, ok2, qB⟩ := z2
  subst e
  refine wpAny_newObj_type (newEnv_comp ?_) (by show 0 ≤ sizeLine; decide)
  obtain ⟨B, eB⟩ : ∃ B, u2.heap.objs.size = B := ⟨_, rfl⟩
  rw [eB]
  have nB : K2 B = none := J2.hok.fresh (Nat.le_of_eq eB)
  obtain ⟨Wt, ⟨n0, k0⟩, turn⟩ := qB B nB
  obtain ⟨u3, hs3⟩ : ∃ u3 : Shared, ({ u2 with heap := u2.heap.push { cls := .type "list", data := .seq ([] : List Value).toArray } } : Shared) = u3 := ⟨_, rfl⟩
  have e3 : u3.heap = u2.heap.push { cls := .type "list", data := .seq ([] : List Value).toArray } := by rw [← hs3]
  have J3 : Inv X pins σ (upd K2 B (.lst [])) u3 := by
    rw [← hs3]
    refine J2.laid (t' := u2.toks) (fun b o e => Heap.get?_push_of_some _ e) (Nat.le_of_eq eB) ⟨Nat.zero_le _, [], 0, .nil, ?_⟩
    rw [← eB]
    exact Heap.get?_push_size _ rfl
  have ok3 : ∀ b ∈ its, FpOk X pins (upd K2 B (.lst [])) b ∧ b < u3.heap.objs.size := fun b hb => by
    obtain ⟨o, e, _⟩ := Tr.obj _ _ a2 b hb
    have lo := Heap.lt_size e
    refine ⟨⟨?_, (ok2 b hb).2⟩, by rw [e3, Heap.size_push]; exact Nat.lt_succ_of_lt lo⟩
    rw [upd_ne (by rw [← eB]; exact Nat.ne_of_lt lo)]
    exact (ok2 b hb).1
  have a3 : atK 0 u3.heap := Tr.keep _ _ _ a2 fun b _ o e => by rw [e3]; exact Heap.get?_push_of_some _ e
  have J4 := block_start J3 ok hN ok3
  have pgt := hg u3 (upd K2 B (.lst [])) u3.heap.objs.size (cellsFrom (u3.heap.objs.size + 1) scope.names (cloFrom X.env.cells scope.names [])) its
  have pts := ht u3 (upd K2 B (.lst [])) u3.heap.objs.size (cellsFrom (u3.heap.objs.size + 1) scope.names (cloFrom X.env.cells scope.names [])) its
  have pel := he u3 (upd K2 B (.lst [])) u3.heap.objs.size (cellsFrom (u3.heap.objs.size + 1) scope.names (cloFrom X.env.cells scope.names [])) its
  rw [hs3]
  show codeAny _ _ (.compStart (.ListComp elt [⟨tg, iter, ifs, 0⟩] scope pos) 0 (.ref it) (.ref B) (compEnvC scope (cellsFrom (u3.heap.objs.size + 1) scope.names (cloFrom X.env.cells scope.names [])) u3.heap.objs.size X.env)) (blkEnd (model X.prog X.w) X.A X.xe use Qf (.ref B) (compEnvC scope (cellsFrom (u3.heap.objs.size + 1) scope.names (cloFrom X.env.cells scope.names [])) u3.heap.objs.size X.env)) { u3 with heap := pushCells (u3.heap.push { cls := .type "dict", data := .dict #[] }) scope.names }
  have nIts : ∀ b ∈ its, (upd K2 B (.lst [])) b = none := fun b hb => (ok3 b hb).1.1
  obtain ⟨ce, hce⟩ : ∃ ce, compEnvC scope (cellsFrom (u3.heap.objs.size + 1) scope.names (cloFrom X.env.cells scope.names [])) u3.heap.objs.size X.env = ce := ⟨_, rfl⟩
  have eL : ce.locals = u3.heap.objs.size := by rw [← hce]; rfl
  have eF : ce.frame = X.env.frame := by rw [← hce]; rfl
  rw [hce] at J4 pgt pts pel ⊢
  obtain ⟨K3, hH3⟩ : ∃ K3, upd K2 B (.lst []) = K3 := ⟨_, rfl⟩
  rw [hH3] at J3 J4 pgt pts pel k0 nIts ok3
  obtain ⟨u4, hs4⟩ : ∃ u4 : Shared, ({ u3 with heap := pushCells (u3.heap.push { cls := .type "dict", data := .dict #[] }) scope.names } : Shared) = u4 := ⟨_, rfl⟩
  rw [hs4] at J4 ⊢
  have a4 : atK 0 u4.heap := Tr.keep _ _ _ a3 fun b _ o e => by rw [← hs4]; exact pushCells_keeps _ _ _ _ (Heap.get?_push_of_some _ e)
  have fine : ∀ {σ' : L2.St} {H' : Hp} {s' : Shared}, Inv (X.blk u3 K3 scope ce its) [] σ' H' s' → (∀ b ∈ its, H' b = none) → ∀ b ∈ its, FpOk (X.blk u3 K3 scope ce its) [] H' b := fun {σ' H' s'} Jn ns_ b hb =>
    ⟨ns_ b hb, (Jn.ok.exf b hb).1, Jn.ok.exfs b hb, .inl hb, fun x c e => (Jn.ok.exf b hb).2 x c e, fun p hp => absurd (show p ∈ ([] : List (Addr × Obj)) ++ [] from hp) (by simp)⟩
  have loop : codeAny (model X.prog X.w) X.A (.compLoop (.ListComp elt [⟨tg, iter, ifs, 0⟩] scope pos) 0 (.ref it) (.ref B) ce) (blkEnd (model X.prog X.w) X.A X.xe use Qf (.ref B) ce) u4 := by
    refine compLoop_any (fun n s' => ∃ i H', Inv (X.blk u3 K3 scope ce its) [] (wipe σ (own.map (·.2))) H' s' ∧ atK i s'.heap ∧ (∀ b ∈ its, H' b = none) ∧ Wt i n H') ?_ n0 ⟨0, K3, J4, a4, nIts, k0⟩
    rintro n u5 ⟨i, K5, J5, a5, no5, k5⟩
    rcases turn i n K5 k5 with ⟨stop, zq⟩ | ⟨go, Next, hNext, stepK⟩
    · refine thnF (Tr.done (X.blk u3 K3 scope ce its) rfl rfl rfl hc i [] u5 _ K5 (fun _ _ => False) J5 (fine J5 no5) a5 stop) fun r u6 ⟨hr, J6⟩ => ?_
      subst hr
      have J7 : Inv X pins σ K5 u6 := J3.call' (ch := its) J6.os J6.base J6.hok J6.bare fun b hb => ⟨(ok3 b hb).1.2.2.2.1, (ok3 b hb).1.2.1, (ok3 b hb).1.2.2.2.2.1, (ok3 b hb).1.2.2.2.2.2⟩
      have nL : K5 ce.locals = none := J6.free
      obtain ⟨m, ns_, _⟩ := J6.loc
      have ns_ : u6.heap.Ns ce.locals m := ns_
      exact hRR B ce.locals u6 m K5 J7 zq ns_ (J3.fpOk (by rw [eL]; exact Nat.le_refl _) nL)
    · refine thnF (Tr.item (X.blk u3 K3 scope ce its) rfl rfl rfl hc i [] u5 _ K5 (fun _ _ => False) J5 (fine J5 no5) a5 go) fun r u6 ⟨u, hr, h6⟩ => ?_
      subst hr
      refine thnF h6 fun _ u7 ⟨x, K7, J7, v7, g7, a7, no7⟩ => ?_
      have J7' := J7.pinned (fine J7 no7) (Tr.obj _ _ a7)
      refine thnF (pgt.run _ u7 _ K7 x u _ J7' v7 (stepK x K7 g7)) fun _ u8 ⟨σ8, K8, J8, ew, z8⟩ => ?_
      refine thnF (pts.run _ u8 σ8 K8 _ J8 z8) fun b u9 ⟨K9, J9, z9⟩ => ?_
      have next_ : ∀ {s' : Shared} {H' : Hp}, Inv (X.blk u3 K3 scope ce its) ([] ++ pinsAt its u7.heap) σ8 H' s' → Next H' → ∃ m, m < n ∧ ∃ i H', Inv (X.blk u3 K3 scope ce its) [] (wipe σ (own.map (·.2))) H' s' ∧ atK i s'.heap ∧ (∀ b ∈ its, H' b = none) ∧ Wt i m H' := fun {s' H'} Jn nxt => by
        obtain ⟨l, lm, k'⟩ := hNext H' nxt
        have held : ∀ b ∈ its, ∀ o, u7.heap.get? b = some o → s'.heap.get? b = some o ∧ H' b = none := fun b hb o e =>
          let z := Jn.pin (b, o) (List.mem_append_right _ (List.mem_append_right _ (mem_pinsAt hb e)))
          ⟨z.1, z.2.1⟩
        have eln : (wipe σ (own.map (·.2))).length = σ8.length := by rw [← ew, wipe_length]
        refine ⟨l, lm, i + 1, H', (Jn.unpinned (pins := [])).weak eln (fun j v e => ?_), Tr.keep _ _ _ a7 fun b hb o e => (held b hb o e).1, fun b hb => ?_, k'⟩
        · rw [← ew] at e
          exact (wipe_some e).1
        · obtain ⟨o, e, _⟩ := Tr.obj _ _ a7 b hb
          exact (held b hb o e).2
      cases b with
      | false =>
        simp only [Bool.false_eq_true, if_false] at z9 ⊢
        exact next_ J9 z9
      | true =>
        simp only [if_true] at z9 ⊢
        have pel2 := pel (fun cls d _ H' => W cls d σ H') ([] ++ ([] ++ pinsAt its u7.heap)) (notedBy (model X.prog X.w) X.A ce fun e s' => blkEnd (model X.prog X.w) X.A X.xe use Qf (.ref B) ce (.error e) s')
          (fun u s' x => blk_air hs hf tk J3 (fun b hb => (ok3 b hb).1) eL eF x) PassesOwn.looking
        refine wpAny_mono (pel2.run [] u9 σ8 K9 _ (J9.toTry _) z9) (fun z u10 hz => ?_) fun _ _ z => z
        obtain ⟨yv, K10, J10, v10, ys, lB, sz10, nxt⟩ := hz
        have J10 : Inv (X.blk u3 K3 scope ce its) ([] ++ pinsAt its u7.heap) σ8 K10 u10 := J10.ofTry J9.ok
        exact app_ok (X := X.blk u3 K3 scope ce its) J10 lB sz10 v10 fun u11 J11 => next_ J11 nxt
  exact codeAny_compStart_list loop (Tr.self X.A 0 _ _ _ a4 loop)
end
end DL
/-! comprehensions whose element may raise: what is said of them -/
namespace DL
open PySem PySem.Spec PyProof.Rows L2
variable {K : PySem.W.Frag}
/-- the comprehension, W what is wished of an exception -/
def tLcX (wi : TI) (g : TG) (tt : TT) (te : WX → TE) (vs : List Nat) (W : WX) : TE := fun σ H Q => tLc wi g tt (te fun cls d _ H' => W cls d σ H') vs σ H Q
section
variable {X : Cx} {W : WX} {elt tg iter : Expr} {ifs : List Expr} {scope : Scope} {own : List (Str × Nat)} {pos spos py : Pos} {wi : TI} {g : TG} {tt : TT} {te : WX → TE}
theorem pe_lcX (hs : X.stack = X.env :: X.outer) (hf : X.env.frame = some X.env.locals) (tk : Takes X W) (hc : X.calm = true) (hN : X.N.Nodup) (hi : PI X tg iter wi) (ok : BlkOk X.N X.env.scope scope own)
    (hg : ∀ s H C cl fp, PG (X.blk s H scope (compEnvC scope cl C X.env) fp) tg g) (ht : ∀ s H C cl fp, PTs (X.blk s H scope (compEnvC scope cl C X.env) fp) ifs tt)
    (he : ∀ s H C cl fp (V : WX) (pn : List (Addr × Obj)) (xe : Value → Shared → Prop), Takes ((X.blk s H scope (compEnvC scope cl C X.env) fp).tr pn xe) V → PassesOwn (model X.prog X.w) X.A (compEnvC scope cl C X.env) xe → PE ((X.blk s H scope (compEnvC scope cl C X.env) fp).tr pn xe) elt (te V))
    (hfs : ∀ x, foldedSetIterable iter X.env x = pure x := by intro _; rfl) : PE X (.ListComp elt [⟨tg, iter, ifs, 0⟩] scope pos) (tLcX wi g tt te (own.map (·.2)) W) := by
  refine ⟨fun pins s σ H Q I h => ?_⟩
  rw [eval_ListComp]
  refine lcX_core hs hf tk hc hN I hi ok hg ht he hfs h fun B C u m H' J q hn f => ⟨m, hn, fun g' sb => ?_⟩
  obtain ⟨a0, a1, a2, a3, a4, a5⟩ := f
  exact ⟨.ref B, H', J.turned (t' := u.toks) (fun b o hb e => by rw [sb.2 b hb]; exact e) a0 a1 a3 a4 a5, rfl, q⟩
theorem ps_setLcX {i : Nat} {y : Str} (hs : X.stack = X.env :: X.outer) (hf : X.env.frame = some X.env.locals) (tk : Takes X W) (hc : X.calm = true) (hN : X.N.Nodup) (hy : X.N[i]? = some y) (hyl : X.env.scope.names.lookup y = some .local)
    (hsw : swapsWith (.ListComp elt [⟨tg, iter, ifs, 0⟩] scope pos) (some (.Name y py)) spos.line X.env = pure true) (hi : PI X tg iter wi) (ok : BlkOk X.N X.env.scope scope own)
    (hg : ∀ s H C cl fp, PG (X.blk s H scope (compEnvC scope cl C X.env) fp) tg g) (ht : ∀ s H C cl fp, PTs (X.blk s H scope (compEnvC scope cl C X.env) fp) ifs tt)
    (he : ∀ s H C cl fp (V : WX) (pn : List (Addr × Obj)) (xe : Value → Shared → Prop), Takes ((X.blk s H scope (compEnvC scope cl C X.env) fp).tr pn xe) V → PassesOwn (model X.prog X.w) X.A (compEnvC scope cl C X.env) xe → PE ((X.blk s H scope (compEnvC scope cl C X.env) fp).tr pn xe) elt (te V))
    (hfs : ∀ x, foldedSetIterable iter X.env x = pure x := by intro _; rfl) : PS X (.Assign [.Name y py] (.ListComp elt [⟨tg, iter, ifs, 0⟩] scope pos) spos) (tAsg (tLcX wi g tt te (own.map (·.2)) W) (gName i)) := by
  refine ⟨fun pins s σ H D I h => ?_⟩
  rw [exec_Assign_Name_used _ _ _ _ hsw]
  refine wpAny_bind (wpAny_standAt (wpAny_bind ?_))
  show wpAny _ X.A (do let _ ← comprehension (.ListComp elt [⟨tg, iter, ifs, 0⟩] scope pos) scope X.env (firstIterPos [⟨tg, iter, ifs, 0⟩] pos) (newList []) false (eval iter X.env) (some (assign (.Name y py) X.env))) _ _ s
  have h : tLc wi g tt (te fun cls d _ H' => W cls d σ H') (own.map (·.2)) σ H (fun x K1 => gName i x σ K1 D.nx) := h
  refine wpAny_bind (thn (lcX_core (Qf := fun _ u => SP X pins D .next u) hs hf tk hc hN I hi ok hg ht he hfs h fun B C u m H' J q hn f => ?_) fun _ u hq => wpAny_pure (wpAny_pure hq))
  show wpAny _ _ (assign (.Name y py) X.env (.ref B)) _ _ _
  refine wpAny_assign_Name (store_ok2 (v := V.ref B) J hN hy (.inl hyl) rfl (fun u2 J2 ⟨a, sb, ha⟩ => ?_) (.inr hyl))
  obtain ⟨a0, a1, a2, a3, a4, a5⟩ := f
  have ne : C ≠ a := by
    rcases ha with z | z
    · rw [z]; exact a1
    · exact fun e => a4 y a z e.symm
  refine ⟨m, hn.sameBut sb ne, fun g3 sb3 => ?_⟩
  exact ⟨_, H', J2.turned (t' := u2.toks) (fun b o hb e => by rw [sb3.2 b hb]; exact e) a0 a1 a3 a4 a5, q⟩
end
def lcLX (g : DG) (t : DT) (e : DE) (ρ : List Sl) (κ : Rv → Prop) (ε : Str → Prop) (acc : List Dat) : List Dat → Prop
  | [] => κ (.n acc)
  | d :: ds => g (.v d) ρ (fun ρ1 => t ρ1 (fun b => if b = true then e ρ1 (fun r => match frz1 r with
    | some x => acc.length < sizeLine ∧ lcLX g t e ρ κ ε (acc ++ [x]) ds
    | none => False) ε else lcLX g t e ρ κ ε acc ds) (fun _ => False))
/-- [..], an exception of the element goes on -/
def dLcX (i : DI) (g : DG) (t : DT) (e : DE) (vs : List Nat) : DE := fun ρ κ ε => i ρ (fun ds => lcLX g t e (wipeS ρ vs) κ ε [] ds) ε
theorem eok_lcX {mg : MG} {W : WX} {wi : TI} {g : TG} {tt : TT} {te : WX → TE} {vs is : List Nat} {di : DI} {dg : DG} {dt : DT} {de : DE} (hi : IOk K true mg W wi di) (hg : GOk K g is dg) (ht : TOk K mg W0 tt dt) (he : ∀ V, EOk K mg V (te V) de) (hv : ∀ i ∈ is, i ∈ vs) :
    EOk K mg W (tLcX wi g tt te vs W) (dLcX di dg dt de vs) := by
  intro H0 G0 G ρ σ H Q κ ε R h hq hx
  refine hi H0 G0 G ρ σ H _ _ ε R h (fun J H1 G1 ds x1 hj hk => ?_) hx
  have hj : ItOk K J ds H1 G1 := hj
  intro D nD
  have x0 := Ext.newH (o := HO.lst []) x1.s nD
  have nDH : H D = none := x1.h.free nD
  have nDG : G1 D = none := x1.s.free nD
  refine ⟨fun i m H' => ∃ (acc : List Dat) (vacc : List V) (G' : Hp), Ext H G H' G' ∧ Ext H1 G1 H' G' ∧ H' D = some (.lst vacc) ∧ RdL K G' acc vacc ∧ G' D = none ∧ m = ds.length - i ∧ lcLX dg dt de (wipeS ρ vs) κ ε acc (ds.drop i),
    ⟨ds.length, [], [], G1, x1.trans x0, x0, upd_same, RdL.nil, nDG, rfl, by simpa using hk⟩, ?_⟩
  rintro i m H' ⟨acc, vacc, G', xs, xn, hD, rD, gD, rfl, hl⟩
  by_cases hlt : i < ds.length
  · refine .inr ⟨hj.go i H' xn.h (xn.g.trans xn.s) hlt, fun H2 => ∃ (acc : List Dat) (vacc : List V) (G' : Hp), Ext H G H2 G' ∧ Ext H1 G1 H2 G' ∧ H2 D = some (.lst vacc) ∧ RdL K G' acc vacc ∧ G' D = none ∧ lcLX dg dt de (wipeS ρ vs) κ ε acc (ds.drop (i + 1)),
      fun H2 ⟨a, b, c, h1, h2, h3, h4, h5, h6⟩ => ⟨ds.length - (i + 1), by omega, a, b, c, h1, h2, h3, h4, h5, rfl, h6⟩, fun x H2 hy => ?_⟩
    have hd : ds[i]? = some ds[i] := List.getElem?_eq_getElem hlt
    obtain ⟨G2, x2, r2⟩ := hj.yld i H' x H2 G' _ xn.h xn.g xn.s hd hy
    rw [List.drop_eq_getElem_cons hlt] at hl
    have Rw := (R.on xs).wipe vs
    refine hg H0 G0 G' G2 _ _ H' H2 (.v ds[i]) x _ _ Rw x2 r2 hl fun ρ3 σ3 R3 t3 k3 => ?_
    refine ⟨wipe_tch t3 hv, ?_⟩
    refine ht H0 G0 G2 ρ3 σ3 H2 _ _ _ R3 k3 (fun b H3 G3 x3 hb => ?_) XOk.none
    have xs3 := (xs.trans x2).trans x3
    have xn3 := (xn.trans x2).trans x3
    have gD3 : G3 D = none := (x2.trans x3).f D (by rw [hD]; exact fun z => nomatch z) gD
    by_cases hbb : b = true
    · rw [if_pos hbb] at hb ⊢
      refine he _ H0 G0 G3 ρ3 σ3 H3 _ _ _ (R3.on x3) hb (fun y H4 G4 r x4 hr k4 => ?_) fun nm cls H' G' x hm k => hx nm cls H' G' (xs3.trans x) hm k
      split at k4
      · rename_i z ez
        obtain ⟨G5, x5, s5, r5⟩ := frz1_ok (Same.refl G4) x4 hr ez
        have hD3 := x3.h _ _ (x2.h _ _ hD)
        have hD4 : H4 D = some (.lst vacc) := x4.h _ _ hD3
        have gD5 : G5 D = none := x5.f D (by rw [hD3]; exact fun z => nomatch z) gD3
        refine ⟨vacc, hD4, by rw [← rD.len]; exact k4.1, ?_⟩
        have xs5 := xs3.trans x5
        have xn5 := xn3.trans x5
        have wr : ∀ {A : Hp}, Same A H4 → A D = none → Same A (upd H4 D (.lst (vacc ++ [y]))) := fun s n b o hb' => by
          rw [upd_ne (fun z => by rw [z, n] at hb'; exact nomatch hb')]
          exact s _ _ hb'
        refine ⟨acc ++ [z], vacc ++ [y], G5, ⟨wr xs5.h nDH, xs5.g, wr xs5.s gD5, xs5.f⟩, ⟨wr xn5.h nD, xn5.g, wr xn5.s gD5, xn5.f⟩, upd_same, ?_, gD5, k4.2⟩
        exact (rD.mono ((x2.g.trans x3.g).trans x5.g)).append (RdL.cons r5 RdL.nil)
      · exact k4.elim
    · rw [if_neg hbb] at hb ⊢
      exact ⟨acc, vacc, G3, xs3, xn3, x3.h _ _ (x2.h _ _ hD), rD.mono (x2.g.trans x3.g), gD3, hb⟩
  · refine .inl ⟨hj.stop i H' xn.h (xn.g.trans xn.s) (by omega), ?_⟩
    rw [List.drop_eq_nil_of_le (by omega)] at hl
    exact hq (.ref D) H' G' (.n acc) xs ⟨D, vacc, rfl, hD, rD, nDH, gD⟩ hl
section
variable {X : Cx} {W : WX} {elt tg iter : Expr} {ifs : List Expr} {scope : Scope} {own : List (Str × Nat)} {is : List Nat} {di : DI} {dg : DG} {dt : DT} {de : DE} {pos : Pos}
abbrev EltX (X : Cx) (scope : Scope) (elt : Expr) (de : DE) : Prop := ∀ (f : BlkT) (V : WX) (pn : List (Addr × Obj)) (xe : Value → Shared → Prop), Takes ((blkX X scope f).tr pn xe) V → PassesOwn (model X.prog X.w) X.A (blkX X scope f).env xe → ME ((blkX X scope f).tr pn xe) V elt de
theorem blk_eX (h : EltX X scope elt de) : ∃ te : WX → TE, (∀ (f : BlkT) (V : WX) (pn : List (Addr × Obj)) (xe : Value → Shared → Prop), Takes ((blkX X scope f).tr pn xe) V → PassesOwn (model X.prog X.w) X.A (blkX X scope f).env xe → PE ((blkX X scope f).tr pn xe) elt (te V)) ∧ ∀ V, EOk X.K X.mg V (te V) de := by
  refine ⟨fun V σ H Q => ∀ f pn xe t, Takes ((blkX X scope f).tr pn xe) V → PassesOwn (model X.prog X.w) X.A (blkX X scope f).env xe → PE ((blkX X scope f).tr pn xe) elt t → EOk X.K X.mg V t de → t σ H Q, fun f V pn xe tk po => ?_,
    fun V H0 G0 G ρ σ H Q κ ε R h1 hq hx f pn xe t _ _ _ ok => ok H0 G0 G ρ σ H Q κ ε R h1 hq hx⟩
  obtain ⟨t, pe, ok⟩ := h f V pn xe tk po
  exact ⟨fun pins s σ H Q I q => pe.run pins s σ H Q I (q f pn xe t tk po pe ok)⟩
theorem lcX_all {k : Nat} (C : Cn X W k) (hi : MI X W true tg iter di) (hv : ∀ i ∈ is, i ∈ own.map (·.2)) (hg : ∀ f, MG1 (blkX X scope f) tg is dg) (ht : ∀ f, MTs (blkX X scope f) W0 ifs dt) (he : EltX X scope elt de) :
    ∃ wi g tt, ∃ te : WX → TE, PI X tg iter wi ∧ (∀ s H C cl fp, PG (X.blk s H scope (compEnvC scope cl C X.env) fp) tg g) ∧ (∀ s H C cl fp, PTs (X.blk s H scope (compEnvC scope cl C X.env) fp) ifs tt) ∧
      (∀ s H C cl fp (V : WX) (pn : List (Addr × Obj)) (xe : Value → Shared → Prop), Takes ((X.blk s H scope (compEnvC scope cl C X.env) fp).tr pn xe) V → PassesOwn (model X.prog X.w) X.A (compEnvC scope cl C X.env) xe → PE ((X.blk s H scope (compEnvC scope cl C X.env) fp).tr pn xe) elt (te V)) ∧
      EOk X.K X.mg W (tLcX wi g tt te (own.map (·.2)) W) (dLcX di dg dt de (own.map (·.2))) := by
  obtain ⟨wi, pi, oi⟩ := hi
  obtain ⟨g, pg, og⟩ := blk_g (K := X.K) (Y := blkX X scope) (fun _ => rfl) hg
  obtain ⟨tt, pt, ot⟩ := blk_t (K := X.K) (Y := blkX X scope) (mg := X.mg) (fun _ => rfl) (fun _ => rfl) ht
  obtain ⟨te, pe, oe⟩ := blk_eX he
  exact ⟨wi, g, tt, te, pi, fun s H C cl fp => pg (s, H, C, cl, fp), fun s H C cl fp => pt (s, H, C, cl, fp), fun s H C cl fp => pe (s, H, C, cl, fp), eok_lcX oi og ot oe hv⟩
theorem me_lcX {k : Nat} (hs : X.stack = X.env :: X.outer) (hf : X.env.frame = some X.env.locals) (C : Cn X W k) (hi : MI X W true tg iter di) (ok : BlkOk X.N X.env.scope scope own) (hg : ∀ f, MG1 (blkX X scope f) tg is dg) (ht : ∀ f, MTs (blkX X scope f) W0 ifs dt) (he : EltX X scope elt de)
    (hv : ∀ i ∈ is, i ∈ own.map (·.2) := by decide) (hfs : ∀ x, foldedSetIterable iter X.env x = pure x := by intro _; rfl) : ME X W (.ListComp elt [⟨tg, iter, ifs, 0⟩] scope pos) (dLcX di dg dt de (own.map (·.2))) := by
  obtain ⟨wi, g, tt, te, h1, h2, h3, h4, h5⟩ := lcX_all C hi hv hg ht he
  exact ⟨_, pe_lcX hs hf C.tk C.hc C.nd h1 ok h2 h3 h4 hfs, h5⟩
theorem ms_setLcX {k : Nat} (i : Nat) {y : Str} {py spos : Pos} (hs : X.stack = X.env :: X.outer) (hf : X.env.frame = some X.env.locals) (C : Cn X W k) (hi : MI X W true tg iter di) (ok : BlkOk X.N X.env.scope scope own) (hg : ∀ f, MG1 (blkX X scope f) tg is dg) (ht : ∀ f, MTs (blkX X scope f) W0 ifs dt) (he : EltX X scope elt de)
    (hsw : swapsWith (.ListComp elt [⟨tg, iter, ifs, 0⟩] scope pos) (some (.Name y py)) spos.line X.env = pure true) (hy : X.N[i]? = some y := by rfl) (hyl : X.env.scope.names.lookup y = some .local := by rfl) (hv : ∀ i ∈ is, i ∈ own.map (·.2) := by decide) (hfs : ∀ x, foldedSetIterable iter X.env x = pure x := by intro _; rfl) :
    MS X W (.Assign [.Name y py] (.ListComp elt [⟨tg, iter, ifs, 0⟩] scope pos) spos) (sAsg (dLcX di dg dt de (own.map (·.2))) (gN i)) := by
  obtain ⟨wi, g, tt, te, h1, h2, h3, h4, h5⟩ := lcX_all C hi hv hg ht he
  refine ⟨_, ps_setLcX hs hf C.tk C.hc C.nd hy hyl hsw h1 ok h2 h3 h4 hfs, fun H0 G0 G ρ σ H D κ R h E => ?_⟩
  refine h5 H0 G0 G ρ σ H _ _ _ R h (fun v H' G' r x hr k => ?_) (E.xok R)
  unfold gN at k
  split at k
  · rename_i s e
    exact E.nx _ _ _ _ (R.store x hr e i) k
  · exact k.elim
end
theorem lcX_at {g : DG} {t : DT} {e : DE} {ρ : List Sl} {κ : Rv → Prop} {ε : Str → Prop} (ds : List Dat) (I : Nat → List Dat → Prop)
    (step : ∀ (i : Nat) (d : Dat) (acc : List Dat) (N : List Dat → Prop), ds[i]? = some d → I i acc → (∀ acc', I (i + 1) acc' → N acc') →
      g (.v d) ρ (fun ρ1 => t ρ1 (fun b => if b = true then e ρ1 (fun r => match frz1 r with
        | some x => acc.length < sizeLine ∧ N (acc ++ [x])
        | none => False) ε else N acc) (fun _ => False))) (fin : ∀ acc, I ds.length acc → κ (.n acc)) :
    ∀ (k i : Nat) (acc : List Dat), i + k = ds.length → I i acc → lcLX g t e ρ κ ε acc (ds.drop i)
  | 0, i, acc, hk, h => by
    have e : i = ds.length := by omega
    rw [e, List.drop_length]
    rw [e] at h
    exact fin acc h
  | k + 1, i, acc, hk, h => by
    have hi : i < ds.length := by omega
    rw [List.drop_eq_getElem_cons hi]
    exact step i _ acc _ (List.getElem?_eq_getElem hi) h fun acc' h' => lcX_at ds I step fin k (i + 1) acc' (by omega) h'
theorem lcX_ind {g : DG} {t : DT} {e : DE} {ρ : List Sl} {κ : Rv → Prop} {ε : Str → Prop} {ds : List Dat} (I : Nat → List Dat → Prop) (h0 : I 0 [])
    (step : ∀ (i : Nat) (d : Dat) (acc : List Dat) (N : List Dat → Prop), ds[i]? = some d → I i acc → (∀ acc', I (i + 1) acc' → N acc') →
      g (.v d) ρ (fun ρ1 => t ρ1 (fun b => if b = true then e ρ1 (fun r => match frz1 r with
        | some x => acc.length < sizeLine ∧ N (acc ++ [x])
        | none => False) ε else N acc) (fun _ => False))) (fin : ∀ acc, I ds.length acc → κ (.n acc)) : lcLX g t e ρ κ ε [] ds := by
  have := lcX_at ds I step fin ds.length 0 [] (by omega) h0
  simpa using this
/-- an element for each item; or an exception at one -/
theorem lcX_map {α : Type} {f h : α → Dat} {g : DG} {e : DE} {ρ : List Sl} {κ : Rv → Prop} {ε : Str → Prop} {xs : List α} (hl : xs.length ≤ 100000)
    (step : ∀ (i : Nat) (x : α) (N : Rv → Prop), xs[i]? = some x → (N (.v (h x))) → g (.v (f x)) ρ (fun ρ1 => e ρ1 N ε)) (k : κ (.n (xs.map h))) : lcLX g tYesD e ρ κ ε [] (xs.map f) := by
  refine lcX_ind (fun i acc => acc = (xs.take i).map h) rfl (fun i d acc N hd ha hn => ?_) fun acc ha => ?_
  · rw [List.getElem?_map] at hd
    obtain ⟨x, hx, rfl⟩ := Option.map_eq_some_iff.mp hd
    have hi : i < xs.length := by
      by_cases y : i < xs.length
      · exact y
      · rw [List.getElem?_eq_none (by omega)] at hx; exact nomatch hx
    refine step i x _ hx ?_
    refine ⟨sz_ok (by rw [ha, List.length_map, List.length_take]; omega), hn _ ?_⟩
    rw [ha, List.take_add_one, hx, List.map_append]; rfl
  · rw [List.length_map, List.take_length] at ha
    rw [ha]; exact k
/-- the first item's element raises -/
theorem lcX_raise {g : DG} {e : DE} {ρ : List Sl} {κ : Rv → Prop} {ε : Str → Prop} {d : Dat} {ds : List Dat} (h : ∀ N : Rv → Prop, g (.v d) ρ (fun ρ1 => e ρ1 N ε)) : lcLX g tYesD e ρ κ ε [] (d :: ds) := h _
end DL
/-! isinstance(e, (A, B)), e a caught exception -/
namespace L2
open PySem PySem.Spec PyProof.Rows
def rIsET (K : PySem.W.Frag) (D a : Addr) : List V → Hp → VK → Prop := fun xs H Q => ∃ (T : Addr) (c1 c2 : V) (v1 v2 : Value) (b1 b2 : Bool), xs = [.ref a, .ref T] ∧ H T = some (.tup [c1, c2]) ∧ (∀ u, RelV c1 u → u = v1) ∧ (∀ u, RelV c2 u → u = v2) ∧
  PySem.W.kitOne K (.ref D) v1 = some b1 ∧ PySem.W.kitOne K (.ref D) v2 = some b2 ∧ Q (.bl (b1 || b2)) H
theorem call_isET {X : Cx} {a D : Addr} {oe : Obj} {pn : List (Addr × Obj)} (C : ExcC X.K D) (hz : Zc (.ref D) none oe) (hf : ∃ vs, oe.data = .fields vs) : CallR (X.suite a ((a, oe) :: pn)) (.builtin "isinstance") (rIsET X.K D a) := by
  intro pins s σ H xs us Q I r h
  obtain ⟨T, c1, c2, v1, v2, b1, b2, rfl, hT, h1, h2, k1, k2, q⟩ := h
  obtain ⟨_, its, rv, ⟨tc, td, tda, tsl⟩, g1, g2, n, g3⟩ := (show ObjOk _ _ H s.heap T (.tup [c1, c2]) from I.hok T _ hT)
  obtain rfl : its = [v1, v2] := by
    cases rv with
    | cons r1 rr =>
      cases rr with
      | cons r2 rr =>
        cases rr
        rw [h1 _ r1, h2 _ r2]
  cases r with
  | cons rx rr =>
    cases rr with
    | cons rt rr =>
      cases rr
      cases rx
      cases rt
      dsimp only at g2 g3
      subst g2 g3
      have hget := (I.pin (a, oe) (List.mem_append_left _ List.mem_cons_self)).1
      have J : PySem.W.InstAt s.heap a oe D none := by
        cases oe
        cases hf
        cases hz
        simp only at *
        subst_vars
        exact ⟨hget, rfl, rfl, trivial⟩
      have kk : PySem.W.kitAny X.K (.ref D) [v1, v2] = some (b1 || b2) := by
        unfold PySem.W.kitAny
        rw [k1]
        cases b1 with
        | true => rfl
        | false =>
          unfold PySem.W.kitAny
          rw [k2]
          cases b2 <;> rfl
      exact PySem.W.kia_tup (PySem.W.handS_kitx_exc C.hg C.hk C.hs C.hd C.ha C.hn C.ht C.hm) I.kIn J g1 kk (fun z => nomatch z) fun tk => ⟨.bl (b1 || b2), H, I.kept (t' := tk) fun _ _ z => z, rfl, q⟩
end L2
namespace DL
open PySem PySem.Spec PyProof.Rows L2
variable {K : PySem.W.Frag}
/-- isinstance(n, (y1, y2)), n the caught one -/
def dIsxT (is : List (Str × Str × Bool)) (a : Addr) (nm : Str) (i : Nat) (y1 y2 : Str) : DE := fun ρ κ _ => ρ[i]? = some (.adr a) ∧ onS (look is nm y1) fun r1 => onS (look is nm y2) fun r2 => κ (.v (.bl (r1 || r2)))
section
variable {X : Cx} {W : WX} {n y y1 y2 : Str} {ms is : List (Str × Str × Bool)} {p p1 p2 p3 p4 pos : Pos}
theorem isx_cls {a : Addr} {oe : Obj} {C : Addr} {nm : Str} {pn : List (Addr × Obj)} {r : Bool} (XX : Xs X.K X.mg ms is) (hm : X.mg nm = some (.ref C)) (hr : look is nm y = some r) (hgy : Gl X y) (hny : y ≠ "__name__") (hdy : (y == ("__debug__" : Str)) = false) :
    ExcC X.K C ∧ ∃ (vy : V) (cv : Value), PE (X.suite a ((a, oe) :: pn)) (.Name y p2) (tC vy) ∧ (∀ u, RelV vy u → u = cv) ∧ PySem.W.kitOne X.K (.ref C) cv = some r := by
  obtain ⟨C', e1, xc, hy⟩ := XX.i _ (look_mem hr)
  have e1 : X.mg nm = some (.ref C') := e1
  rw [hm] at e1
  cases e1
  refine ⟨xc, ?_⟩
  rcases hy with ⟨D, e2, k2, h2⟩ | ⟨e2, bt, ey, h2⟩
  · exact ⟨.ref D, _, pe_glob (X := X.suite a ((a, oe) :: pn)) hgy e2 rfl hdy, fun u h => h, h2⟩
  · exact ⟨.ty "ValueError", _, pe_bltn (X := X.suite a ((a, oe) :: pn)) (v := .ty "ValueError") hgy e2 bt rfl hny hdy, fun u h => h, h2⟩
theorem me_isxT {a : Addr} {oe : Obj} {cls : Value} {nm : Str} {pn : List (Addr × Obj)} {k : Nat} (i : Nat) (XX : Xs X.K X.mg ms is) (hz : Zc cls none oe) (hfl : ∃ vs, oe.data = .fields vs) (hm : X.mg nm = some cls) (hI : X.mg "isinstance" = none)
    (hN : X.N[i]? = some n := by rfl) (hv : Vis X.env.scope n := by first | exact Or.inl rfl | exact Or.inr (Or.inl rfl) | exact Or.inr (Or.inr rfl)) (hd : (n == ("__debug__" : Str)) = false := by decide) (hcd : (n == ("__classdict__" : Str)) = false := by decide)
    (hg : Gl X "isinstance" := by rfl) (hg1 : Gl X y1 := by rfl) (hn1 : y1 ≠ "__name__" := by decide) (hd1 : (y1 == ("__debug__" : Str)) = false := by decide) (hg2 : Gl X y2 := by rfl) (hn2 : y2 ≠ "__name__" := by decide) (hd2 : (y2 == ("__debug__" : Str)) = false := by decide)
    (he : starEach [.Name n p1, .Tuple [.Name y1 p2, .Name y2 p3] k p4] X.env = (false, eval (.Name n p1) X.env) :: starEach [.Tuple [.Name y1 p2, .Name y2 p3] k p4] X.env := by rfl) (he2 : starEach [.Tuple [.Name y1 p2, .Name y2 p3] k p4] X.env = (false, eval (.Tuple [.Name y1 p2, .Name y2 p3] k p4) X.env) :: starEach [] X.env := by rfl)
    (he3 : starEach [.Name y1 p2, .Name y2 p3] X.env = (false, eval (.Name y1 p2) X.env) :: starEach [.Name y2 p3] X.env := by rfl) (he4 : starEach [.Name y2 p3] X.env = (false, eval (.Name y2 p3) X.env) :: starEach [] X.env := by rfl)
    (hpl : (backTo pos (starEach [.Tuple [.Name y1 p2, .Name y2 p3] k p4] X.env)).any (·.1) = false := by rfl) :
    ME (X.suite a ((a, oe) :: pn)) W (.Call (.Name "isinstance" p) [.Name n p1, .Tuple [.Name y1 p2, .Name y2 p3] k p4] [] pos) (dIsxT is a nm i y1 y2) := by
  by_cases hex : ∃ r1 r2, look is nm y1 = some r1 ∧ look is nm y2 = some r2
  · obtain ⟨r1, r2, hr1, hr2⟩ := hex
    obtain ⟨C, e1, _, _⟩ := XX.i _ (look_mem hr1)
    have e1 : X.mg nm = some (.ref C) := e1
    rw [hm] at e1
    cases e1
    obtain ⟨xc, w1, v1, q1, u1, k1⟩ := isx_cls (p2 := p2) (a := a) (oe := oe) (pn := pn) XX hm hr1 hg1 hn1 hd1
    obtain ⟨_, w2, v2, q2, u2, k2⟩ := isx_cls (p2 := p3) (a := a) (oe := oe) (pn := pn) XX hm hr2 hg2 hn2 hd2
    refine ⟨_, pe_callB (X := X.suite a ((a, oe) :: pn)) (call_isET xc hz hfl) hg hI PyProof.Rows.boot_isinstance (pa_cons (pe_var (X := X.suite a ((a, oe) :: pn)) hN hv hd hcd) (pa_cons (pe_tup (pa_cons q1 (pa_cons q2 pa_nil he4) he3)) pa_nil he2) he) (by decide) (by decide) he hpl, fun H0 G0 G ρ σ H Q κ ε R h hq hx => ?_⟩
    obtain ⟨h1, h2⟩ := h
    obtain ⟨r1', e1, h2⟩ := onS.of h2
    obtain ⟨r2', e2, h2⟩ := onS.of h2
    rw [hr1] at e1
    rw [hr2] at e2
    cases e1
    cases e2
    refine ⟨.ref a, R.sl _ _ h1, by show 2 ≤ sizeLine; decide, fun T nT => ⟨T, w1, w2, v1, v2, r1, r2, rfl, upd_same, u1, u2, k1, k2, ?_⟩⟩
    exact hq _ _ G (.v (.bl _)) (Ext.newH R.ext.s nT) toB h2
  · refine ⟨fun _ _ _ => False, ⟨fun pins s σ H Q I q => q.elim⟩, fun H0 G0 G ρ σ H Q κ ε R h hq hx => ?_⟩
    obtain ⟨_, h2⟩ := h
    obtain ⟨r1, hr1, h2⟩ := onS.of h2
    obtain ⟨r2, hr2, _⟩ := onS.of h2
    exact absurd ⟨r1, r2, hr1, hr2⟩ hex
end
end DL
/-! texts -/
namespace DL
open PySem PySem.Spec PyProof.Rows L2
variable {K : PySem.W.Frag}
theorem Rv.str_of {x : Rv} {s : Str} (e : x.dat = .str s) : x = .v (.str s) := by
  cases x with
  | v d => have e : d = .str s := e; rw [e]
  | n ds => exact nomatch e
  | b ds => exact nomatch e
  | o ds => exact nomatch e
theorem rvS {H0 G Hs H : Hp} {s : Str} {v : V} (h : RvR K H0 G Hs H (.v (.str s)) v) : v = .str s := by
  have h : RdD K G (.str s) v := h
  unfold RdD at h
  exact h
theorem toS {H0 G Hs H : Hp} {s : Str} : RvR K H0 G Hs H (.v (.str s)) (.str s) := by
  show RdD K G (.str s) (.str s)
  unfold RdD; rfl
/-- of a text -/
def asS (r : Rv) (k : Str → Prop) : Prop := match r with
  | .v (.str s) => k s
  | _ => False
theorem asS.of {r : Rv} {k : Str → Prop} (h : asS r k) : ∃ s, r = .v (.str s) ∧ k s := by
  unfold asS at h
  split at h
  · exact ⟨_, rfl, h⟩
  · exact h.elim
/-! ### x + y, with texts -/
def rAddSt : R2 := fun x y H Q => ∃ i j, x = .str i ∧ y = .str j ∧ i.length + j.length ≤ sizeLine ∧ Q (.str (i ++ j)) H
def kCatSt : Rv → Rv → (Rv → Prop) → (Str → Prop) → Prop := fun x y κ _ => asS x fun a => asS y fun b => a.length + b.length ≤ sizeLine ∧ κ (.v (.str (a ++ b)))
theorem op2_catSt : Op2 K rAddSt kCatSt := by
  intro H0 G Hs H x y v u Q κ ε s s0 sh rx ry k q
  obtain ⟨a, rfl, k0⟩ := asS.of k
  obtain ⟨b, rfl, k1, k2⟩ := asS.of k0
  obtain rfl := rvS rx
  obtain rfl := rvS ry
  exact ⟨a, b, rfl, rfl, k1, q _ H G _ (Ext.refl s) toS k2⟩
def kPls : Rv → Rv → (Rv → Prop) → (Str → Prop) → Prop := fun x y κ ε => match x.dat, y.dat with
  | .int i, .int j => κ (.v (.int (i + j)))
  | .lst ds, .lst es => ds.length + es.length ≤ sizeLine ∧ κ (.n (ds ++ es))
  | .tup ds, .tup es => Nat.ble (ds.length + es.length) 100000 = true ∧ κ (.v (.tup (ds ++ es)))
  | .str a, .str b => a.length + b.length ≤ sizeLine ∧ κ (.v (.str (a ++ b)))
  | _, _ => False
def rPls (K : PySem.W.Frag) : R2 := fun x y H Q => (rI0 (fun i j => .int (i + j)) x y H Q ∨ (rCatR K x y H Q ∨ rCatA K x y H Q)) ∨ rAddSt x y H Q
theorem op2_pls : Op2 K (rPls K) kPls := by
  refine op2_or op2_plus op2_catSt fun x y κ ε h => ?_
  unfold kPls at h
  split at h
  · rename_i i j e1 e2
    left; unfold kPlus; rw [e1, e2]; exact h
  · rename_i i j e1 e2
    left; unfold kPlus; rw [e1, e2]; exact h
  · rename_i i j e1 e2
    left; unfold kPlus; rw [e1, e2]; exact h
  · rename_i i j e1 e2
    obtain rfl := Rv.str_of e1
    obtain rfl := Rv.str_of e2
    right; exact h
  · exact h.elim
def dPls := dBin kPls
theorem op_pls {X : Cx} : OpR X (binaryOp .Add) (rPls X.K) := by
  intro pins s σ H x y v u Q I rx ry h
  rcases h with h | h
  · rcases h with h | h | h
    · exact op_add pins s σ H x y v u Q I rx ry h
    · exact op_catR pins s σ H x y v u Q I rx ry h
    · exact op_catA pins s σ H x y v u Q I rx ry h
  · exact op_add_str pins s σ H x y v u Q I rx ry h
section
variable {X : Cx} {W : WX} {a b e o : Expr} {es : List Expr} {da db d d' : DE} {dA : DA} {pos p p2 p3 p4 : Pos}
theorem me_pls (ha : ME X W a da) (hb : ME X W b db) : ME X W (.BinOp a .Add b pos) (dPls da db) := me_bin op_pls op2_pls ha hb
end
/-! ### len, str, int -/
def kLenA : List Rv → (Rv → Prop) → Prop := fun rs κ => match rs with
  | [x] => (match x.dat with
    | .str z => z.length ≤ sizeLine ∧ κ (.v (.int (z.length : Int)))
    | .lst ds => κ (.v (.int (ds.length : Int)))
    | .tup ds => κ (.v (.int (ds.length : Int)))
    | _ => False)
  | _ => False
theorem opa_lenA {K : PySem.W.Frag} : OpA K (fun xs H Q => ∃ x n, xs = [x] ∧ LenV K x H n ∧ Q (.int n) H) kLenA := by
  intro H0 G Hs H rs vs Q κ s s0 sh h k q
  unfold kLenA at k
  split at k
  · rename_i x
    obtain ⟨v, rfl, h1⟩ := rvs1 h
    split at k
    · rename_i z e
      obtain rfl := Rv.str_of e
      obtain rfl := rvS h1
      exact ⟨.str z, z.length, rfl, ⟨k.1, rfl⟩, q _ H G (.v (.int _)) (Ext.refl s) toI k.2⟩
    · rename_i ds e
      obtain ⟨l, us, rfl, a, b⟩ := rvQ (K := K) s s0 h1 (.inl e)
      exact ⟨.ref l, us.length, rfl, a.elim (fun z => .inl ⟨us, z, rfl⟩) fun z => .inr ⟨us, z, rfl⟩, by rw [← b.len]; exact q _ H G (.v (.int _)) (Ext.refl s) toI k⟩
    · rename_i ds e
      obtain ⟨l, us, rfl, a, b⟩ := rvQ (K := K) s s0 h1 (.inr e)
      exact ⟨.ref l, us.length, rfl, a.elim (fun z => .inl ⟨us, z, rfl⟩) fun z => .inr ⟨us, z, rfl⟩, by rw [← b.len]; exact q _ H G (.v (.int _)) (Ext.refl s) toI k⟩
    · exact k.elim
  · exact k.elim
/-- str of an int -/
def kStr : List Rv → (Rv → Prop) → Prop := fun rs κ => match rs with
  | [x] => asI x fun i => i.natAbs.log2 < 1920 ∧ κ (.v (.str (toString i)))
  | _ => False
theorem opa_str {K : PySem.W.Frag} : OpA K (fun xs H Q => ∃ i, xs = [.int i] ∧ i.natAbs.log2 < 1920 ∧ Q (.str (toString i)) H) kStr := by
  intro H0 G Hs H rs vs Q κ s s0 sh h k q
  unfold kStr at k
  split at k
  · obtain ⟨v, rfl, h1⟩ := rvs1 h
    obtain ⟨i, rfl, k1, k2⟩ := asI.of k
    obtain rfl := rvI h1
    exact ⟨i, rfl, k1, q _ H G _ (Ext.refl s) toS k2⟩
  · exact k.elim
/-- int of a text that writes one -/
def kIntS : List Rv → (Rv → Prop) → Prop := fun rs κ => match rs with
  | [x] => asS x fun a => a.length ≤ 640 ∧ onS (PySem.intText? a) fun n => κ (.v (.int n))
  | _ => False
theorem opa_intS {K : PySem.W.Frag} : OpA K (fun xs H Q => ∃ a n, xs = [.str a] ∧ PySem.intText? a = some n ∧ a.length ≤ 640 ∧ Q (.int n) H) kIntS := by
  intro H0 G Hs H rs vs Q κ s s0 sh h k q
  unfold kIntS at k
  split at k
  · obtain ⟨v, rfl, h1⟩ := rvs1 h
    obtain ⟨a, rfl, k1, k2⟩ := asS.of k
    obtain rfl := rvS h1
    obtain ⟨n, e, k3⟩ := onS.of k2
    exact ⟨a, n, rfl, e, k1, q _ H G _ (Ext.refl s) toI k3⟩
  · exact k.elim
section
variable {X : Cx} {W : WX} {a b e o : Expr} {es : List Expr} {da db d d' : DE} {dA : DA} {pos p p2 p3 p4 : Pos}
theorem me_lenA (hm : X.mg "len" = none) (ha : MA X W (e :: es) dA) (hg : Gl X "len" := by rfl) (he : starEach (e :: es) X.env = (false, eval e X.env) :: starEach es X.env := by rfl) (hpl : (backTo pos (starEach es X.env)).any (·.1) = false := by rfl) : ME X W (.Call (.Name "len" p) (e :: es) [] pos) (dB kLenA dA) :=
  me_B call_len opa_lenA rfl hm ha hg (by decide) rfl he hpl
theorem me_toStr (hm : X.mg "str" = none) (ha : MA X W (e :: es) dA) (hg : Gl X "str" := by rfl) (he : starEach (e :: es) X.env = (false, eval e X.env) :: starEach es X.env := by rfl) (hpl : (backTo pos (starEach es X.env)).any (·.1) = false := by rfl) : ME X W (.Call (.Name "str" p) (e :: es) [] pos) (dB kStr dA) :=
  me_Ty call_str_int opa_str rfl hm ha hg (by decide) rfl he hpl
theorem me_intS (hm : X.mg "int" = none) (ha : MA X W (e :: es) dA) (hg : Gl X "int" := by rfl) (he : starEach (e :: es) X.env = (false, eval e X.env) :: starEach es X.env := by rfl) (hpl : (backTo pos (starEach es X.env)).any (·.1) = false := by rfl) : ME X W (.Call (.Name "int" p) (e :: es) [] pos) (dB kIntS dA) :=
  me_Ty call_int_str opa_intS rfl hm ha hg (by decide) rfl he hpl
/-! ### places, slices -/
def kIxS : Rv → Rv → (Rv → Prop) → (Str → Prop) → Prop := fun x y κ _ => asS x fun z => asI y fun i => z.length ≤ sizeLine ∧ onS (atI z.cps.toList i) fun c => κ (.v (.str ⟨#[c]⟩))
theorem op2_ixS : Op2 K rIxS kIxS := by
  intro H0 G Hs H x y v u Q κ ε s s0 sh rx ry k q
  obtain ⟨z, rfl, k0⟩ := asS.of k
  obtain ⟨i, rfl, k1, k3⟩ := asI.of k0
  obtain ⟨c, e, k2⟩ := onS.of k3
  obtain rfl := rvS rx
  obtain rfl := rvI ry
  exact ⟨z, i, c, rfl, rfl, k1, e, q _ H G _ (Ext.refl s) toS k2⟩
def dIxS := dBin kIxS
theorem me_ixS (ha : ME X W a da) (hb : ME X W b db) (hs : PlainIx b := by exact fun _ _ => rfl) : ME X W (.Subscript a b pos) (dIxS da db) := by
  obtain ⟨ta, pa, oa⟩ := ha
  obtain ⟨tb, pb, ob⟩ := hb
  exact ⟨_, pe_ix ix_str pa pb hs, eok_bin oa ob op2_ixS⟩
variable {lo hi : Option Expr} {dl dh : DO}
def dCutSt (a : DE) (l h : DO) : DE := fun ρ κ ε => a ρ (fun x => l ρ (fun lo => h ρ (fun hi => asS x fun z => z.length ≤ sizeLine ∧ κ (.v (.str (cutS z lo hi)))) ε) ε) ε
theorem me_cutSt (ha : ME X W a da) (hl : MO X W lo dl) (hh : MO X W hi dh) : ME X W (.Subscript a (.Slice lo hi none p2) pos) (dCutSt da dl dh) := by
  obtain ⟨ta, pa, oa⟩ := ha
  obtain ⟨tl, pl, ol⟩ := hl
  obtain ⟨th, ph, oh⟩ := hh
  refine ⟨_, pe_slice sl_str pa pl ph, fun H0 G0 G ρ σ H Q κ ε R h hq hx => ?_⟩
  refine oa H0 G0 G ρ σ H _ _ ε R h (fun v H1 G1 x e1 r1 h1 => ?_) hx
  refine ol H0 G0 G1 ρ σ H1 _ _ ε (R.on e1) h1 (fun lo H2 G2 e2 h2 => ?_) (hx.on e1)
  refine oh H0 G0 G2 ρ σ H2 _ _ ε ((R.on e1).on e2) h2 (fun hi H3 G3 e3 h3 => ?_) ((hx.on e1).on e2)
  obtain ⟨z, rfl, k1, k2⟩ := asS.of h3
  obtain rfl := rvS r1
  exact ⟨z, rfl, k1, hq _ H3 G3 _ ((e1.trans e2).trans e3) toS k2⟩
/-! ### a sign in a text -/
def kInSg (neg : Bool) : Rv → Rv → (Rv → Prop) → (Str → Prop) → Prop := fun x y κ _ => asS x fun a => asS y fun z => ∃ c, a = ⟨#[c]⟩ ∧ κ (.v (.bl (if neg = true then !decide (c ∈ z.cps.toList) else decide (c ∈ z.cps.toList))))
def rInSg (neg : Bool) : R2 := fun x y H Q => ∃ (c : Nat) (z : Str), x = .str ⟨#[c]⟩ ∧ y = .str z ∧ Q (.bl (if neg = true then !decide (c ∈ z.cps.toList) else decide (c ∈ z.cps.toList))) H
theorem op2_inSg {neg : Bool} : Op2 K (rInSg neg) (kInSg neg) := by
  intro H0 G Hs H x y v u Q κ ε s s0 sh rx ry k q
  obtain ⟨a, rfl, k0⟩ := asS.of k
  obtain ⟨z, rfl, c, rfl, k2⟩ := asS.of k0
  obtain rfl := rvS rx
  obtain rfl := rvS ry
  exact ⟨c, z, rfl, rfl, q _ H G _ (Ext.refl s) toB k2⟩
theorem op_inSg : OpR X (compareOp .In) (rInSg false) := fun pins s σ H x y v u Q I rx ry ⟨c, z, h1, h2, h3⟩ => op_in_sign pins s σ H x y v u Q I rx ry ⟨c, z, h1, h2, h3⟩
theorem op_notinSg : OpR X (compareOp .NotIn) (rInSg true) := fun pins s σ H x y v u Q I rx ry ⟨c, z, h1, h2, h3⟩ => op_notIn_sign pins s σ H x y v u Q I rx ry ⟨c, z, h1, h2, h3⟩
def dInSg (neg : Bool) := dBin (kInSg neg)
theorem me_inSg (ha : ME X W a da) (hb : ME X W b db) (hm : behindInMarks .In b = false := by rfl) : ME X W (.Compare a [.In] [b] pos) (dInSg false da db) := me_cmp op_inSg op2_inSg ha hb hm
theorem me_notinSg (ha : ME X W a da) (hb : ME X W b db) (hm : behindInMarks .NotIn b = false := by rfl) : ME X W (.Compare a [.NotIn] [b] pos) (dInSg true da db) := me_cmp op_notinSg op2_inSg ha hb hm
theorem mt_inSg (ha : ME X W a da) (hb : ME X W b db) (hm : behindInMarks .In b = false := by rfl) : MT X W (.Compare a [.In] [b] pos) (tVal (dInSg false da db)) := mt_cmp op_inSg op2_inSg ha hb hm
theorem mt_notinSg (ha : ME X W a da) (hb : ME X W b db) (hm : behindInMarks .NotIn b = false := by rfl) : MT X W (.Compare a [.NotIn] [b] pos) (tVal (dInSg true da db)) := mt_cmp op_notinSg op2_inSg ha hb hm
/-! ### methods of a text, with one text -/
def dM1 (k : Str → Rv → (Rv → Prop) → Prop) (o a : DE) : DE := fun ρ κ ε => o ρ (fun x => asS x fun s => a ρ (fun y => k s y κ) ε) ε
/-- what a method does, over data -/
def OpM (K : PySem.W.Frag) (r : V → List V → Hp → VK → Prop) (k : Str → Rv → (Rv → Prop) → Prop) : Prop :=
  ∀ (H0 G Hs H : Hp) (a : Str) (y : Rv) (u : V) (Q : VK) (κ : Rv → Prop), Same G H → Same H0 H → Same Hs H → RvR K H0 G Hs H y u → k a y κ →
    (∀ w H' G' z, Ext H G H' G' → RvR K H0 G' H H' z w → κ z → Q w H') → r (.str a) [u] H Q
theorem eok_M1 {mg : MG} {to te : TE} {r : V → List V → Hp → VK → Prop} {k : Str → Rv → (Rv → Prop) → Prop} (hr : OpM K r k) (ho : EOk K mg W to d) (he : EOk K mg W te d') : EOk K mg W (tM1 r to te) (dM1 k d d') := by
  intro H0 G0 G ρ σ H Q κ ε R h hq hx
  refine ho H0 G0 G ρ σ H _ _ ε R h (fun v H1 G1 x x1 rx h1 => ?_) hx
  obtain ⟨s, rfl, h1⟩ := asS.of h1
  have R1 := R.on x1
  obtain rfl := rvS rx
  refine ⟨⟨s, rfl⟩, ?_⟩
  refine he H0 G0 G1 ρ σ H1 _ _ ε R1 h1 (fun u H2 G2 y x2 ry h2 => ?_) (hx.on x1)
  have R2 := R1.on x2
  refine hr H0 G2 H1 H2 s y u _ κ R2.ext.s R2.ext.h x2.h ry h2 fun w H3 G3 z x3 rz kz => ?_
  exact hq w H3 G3 z ((x1.trans x2).trans x3) (RvR.back (x1.h.trans x2.h) rz) kz
theorem me_M1 {id : String} {name : Str} {apos : Pos} {r : V → List V → Hp → VK → Prop} {k : Str → Rv → (Rv → Prop) → Prop} (slot : Slot "str" name id) (ty : typeOf (.builtin id) = pure (.type "method_descriptor")) (rule : MtR X id r) (hr : OpM X.K r k) (ho : ME X W o d) (he : ME X W e d')
    (hs : starEach [e] X.env = [(false, eval e X.env)] := by rfl) (hbase : attributeBase o name X.env (eval o X.env) = eval o X.env := by rfl) (hline : (apos.endLine == pos.line) = true := by rfl) : ME X W (.Call (.Attribute o name apos) [e] [] pos) (dM1 k d d') := by
  obtain ⟨to, po, oo⟩ := ho
  obtain ⟨te, pe, oe⟩ := he
  exact ⟨_, pe_m1 slot ty rule po pe hs hbase hline, eok_M1 hr oo oe⟩
/-- a method of two texts, its answer a function -/
def kM (g : Str → Str → Dat) : Str → Rv → (Rv → Prop) → Prop := fun a y κ => asS y fun b => κ (.v (g a b))
theorem opM_g {K : PySem.W.Frag} {g : Str → Str → V} {g' : Str → Str → Dat} (hg : ∀ a b G, RdD K G (g' a b) (g a b)) : OpM K (fun x xs H Q => ∃ a b, x = .str a ∧ xs = [.str b] ∧ Q (g a b) H) (kM g') := by
  intro H0 G Hs H a y u Q κ s s0 sh ry k q
  obtain ⟨b, rfl, k1⟩ := asS.of k
  obtain rfl := rvS ry
  exact ⟨a, b, rfl, rfl, q _ H G (.v (g' a b)) (Ext.refl s) (hg a b G) k1⟩
def dStartswith := dM1 (kM fun a b => .bl (Txt.startswith a b))
def dFind := dM1 (kM fun a b => .int (Txt.find a b))
theorem me_startswith {apos : Pos} (ho : ME X W o d) (he : ME X W e d') (hs : starEach [e] X.env = [(false, eval e X.env)] := by rfl) (hbase : attributeBase o "startswith" X.env (eval o X.env) = eval o X.env := by rfl) (hline : (apos.endLine == pos.line) = true := by rfl) :
    ME X W (.Call (.Attribute o "startswith" apos) [e] [] pos) (dStartswith d d') := me_M1 F.slot_str_startswith F.type_str_startswith mt_startswith (opM_g fun a b G => by unfold RdD; rfl) ho he hs hbase hline
theorem me_find {apos : Pos} (ho : ME X W o d) (he : ME X W e d') (hs : starEach [e] X.env = [(false, eval e X.env)] := by rfl) (hbase : attributeBase o "find" X.env (eval o X.env) = eval o X.env := by rfl) (hline : (apos.endLine == pos.line) = true := by rfl) :
    ME X W (.Call (.Attribute o "find" apos) [e] [] pos) (dFind d d') := me_M1 F.slot_str_find F.type_str_find mt_find (opM_g fun a b G => by unfold RdD; rfl) ho he hs hbase hline
/-- a.split(b): a new list of texts -/
def kSplit : Str → Rv → (Rv → Prop) → Prop := fun a y κ => asS y fun b => (b.length == 0) = false ∧ a.length + 2 ≤ sizeLine ∧ κ (.n ((Txt.split a b).map Dat.str))
theorem rd_strs {G : Hp} : ∀ xs : List Str, RdL K G (xs.map Dat.str) (xs.map V.str)
  | [] => RdL.nil
  | x :: xs => RdL.cons (by unfold RdD; rfl) (rd_strs xs)
theorem opM_split : OpM K (fun x xs H Q => ∃ a b, x = .str a ∧ xs = [.str b] ∧ (b.length == 0) = false ∧ a.length + 2 ≤ sizeLine ∧ rNewStrs (Txt.split a b) H Q) kSplit := by
  intro H0 G Hs H a y u Q κ s s0 sh ry k q
  obtain ⟨b, rfl, k1, k2, k3⟩ := asS.of k
  obtain rfl := rvS ry
  refine ⟨a, b, rfl, rfl, k1, k2, fun p np => ?_⟩
  exact q _ _ G (.n _) (Ext.newH s np) ⟨p, _, rfl, upd_same, rd_strs _, np, s.free np⟩ k3
def dSplit := dM1 kSplit
theorem me_split {apos : Pos} (ho : ME X W o d) (he : ME X W e d') (hs : starEach [e] X.env = [(false, eval e X.env)] := by rfl) (hbase : attributeBase o "split" X.env (eval o X.env) = eval o X.env := by rfl) (hline : (apos.endLine == pos.line) = true := by rfl) :
    ME X W (.Call (.Attribute o "split" apos) [e] [] pos) (dSplit d d') := me_M1 F.slot_str_split F.type_str_split mt_split opM_split ho he hs hbase hline
def kPartition : Str → Rv → (Rv → Prop) → Prop := fun a y κ => asS y fun b => (b.length == 0) = false ∧ a.length ≤ sizeLine ∧ κ (.v (.tup [.str (Txt.partition a b).1, .str (Txt.partition a b).2.1, .str (Txt.partition a b).2.2]))
theorem opM_partition : OpM K (fun x xs H Q => ∃ a b, x = .str a ∧ xs = [.str b] ∧ (b.length == 0) = false ∧ a.length ≤ sizeLine ∧
    ∀ p, H p = none → Q (.ref p) (upd H p (.tup [.str (Txt.partition a b).1, .str (Txt.partition a b).2.1, .str (Txt.partition a b).2.2]))) kPartition := by
  intro H0 G Hs H a y u Q κ s s0 sh ry k q
  obtain ⟨b, rfl, k1, k2, k3⟩ := asS.of k
  obtain rfl := rvS ry
  refine ⟨a, b, rfl, rfl, k1, k2, fun p np => ?_⟩
  refine q _ _ (upd G p (.tup [.str (Txt.partition a b).1, .str (Txt.partition a b).2.1, .str (Txt.partition a b).2.2])) (.v _) (Ext.newG s np) ?_ k3
  show RdD K _ (.tup _) (.ref p)
  unfold RdD
  exact ⟨p, _, rfl, upd_same, rd_strs [_, _, _]⟩
def dPartition := dM1 kPartition
theorem me_partition {apos : Pos} (ho : ME X W o d) (he : ME X W e d') (hs : starEach [e] X.env = [(false, eval e X.env)] := by rfl) (hbase : attributeBase o "partition" X.env (eval o X.env) = eval o X.env := by rfl) (hline : (apos.endLine == pos.line) = true := by rfl) :
    ME X W (.Call (.Attribute o "partition" apos) [e] [] pos) (dPartition d d') := me_M1 F.slot_str_partition F.type_str_partition mt_partition opM_partition ho he hs hbase hline
/-- sep.join(list of texts) -/
def strsD : List Dat → Option (List Str)
  | [] => some []
  | .str i :: ds => (strsD ds).map (i :: ·)
  | _ => none
theorem strsD_map : ∀ ns : List Str, strsD (ns.map Dat.str) = some ns
  | [] => rfl
  | n :: ns => by
    show (strsD (ns.map Dat.str)).map (n :: ·) = _
    rw [strsD_map ns]; rfl
theorem strsD_of : ∀ {ds : List Dat} {ns : List Str}, strsD ds = some ns → ds = ns.map Dat.str
  | [], ns, h => by cases h; rfl
  | d :: ds, ns, h => by
    cases d with
    | str i =>
      have h : (strsD ds).map (i :: ·) = some ns := h
      obtain ⟨ms, h1, rfl⟩ := Option.map_eq_some_iff.mp h
      rw [strsD_of h1]; rfl
    | _ => exact nomatch h
theorem RdL.toStrs {G : Hp} : ∀ {ns : List Str} {vs : List V}, RdL K G (ns.map Dat.str) vs → vs = ns.map V.str
  | [], vs, h => by unfold List.map RdL at h; exact h
  | n :: ns, vs, h => by
    unfold List.map RdL at h
    obtain ⟨v, r, rfl, h1, h2⟩ := h
    unfold RdD at h1
    rw [h1, RdL.toStrs h2]; rfl
def kJoin : Str → Rv → (Rv → Prop) → Prop := fun a y κ => asL y fun ds => onS (strsD ds) fun ys => (ys.map (·.length)).sum + ys.length * a.length ≤ 16777216 ∧ κ (.v (.str (Txt.join a ys)))
theorem opM_join : OpM K (fun x xs H Q => ∃ a p, ∃ ys : List Str, x = .str a ∧ xs = [.ref p] ∧ (SqL K H p (ys.map V.str) ∨ SqT K H p (ys.map V.str)) ∧ (ys.map (·.length)).sum + ys.length * a.length ≤ 16777216 ∧ Q (.str (Txt.join a ys)) H) kJoin := by
  intro H0 G Hs H a y u Q κ s s0 sh ry k q
  obtain ⟨ds, ed, k⟩ := asL.of k
  obtain ⟨ys, ey, k1, k2⟩ := onS.of k
  obtain ⟨l, vs, rfl, b, c⟩ := ry.lst s s0 ed
  rw [strsD_of ey] at c
  have e := c.toStrs
  subst e
  exact ⟨a, l, ys, rfl, rfl, .inl b, k1, q _ H G _ (Ext.refl s) toS k2⟩
def dJoin := dM1 kJoin
theorem me_join {apos : Pos} (ho : ME X W o d) (he : ME X W e d') (hs : starEach [e] X.env = [(false, eval e X.env)] := by rfl) (hbase : attributeBase o "join" X.env (eval o X.env) = eval o X.env := by rfl) (hline : (apos.endLine == pos.line) = true := by rfl) :
    ME X W (.Call (.Attribute o "join" apos) [e] [] pos) (dJoin d d') := me_M1 F.slot_str_join F.type_str_join mt_join opM_join ho he hs hbase hline
/-! ### for over the signs of a text -/
def sgnsD (z : Str) : List Dat := z.cps.toList.map fun c => Dat.str ⟨#[c]⟩
def iSgn (a : DE) : DI := fun ρ κ ε => a ρ (fun r => asS r fun z => κ (sgnsD z)) ε
theorem itOk_str {z : Str} {B G : Hp} : ItOk K (Its z) (sgnsD z) B G := by
  have hl : (sgnsD z).length = z.cps.size := by unfold sgnsD; rw [List.length_map, Array.length_toList]
  refine ⟨fun i H b g hi => (show i < z.cps.size by rw [← hl]; exact hi), fun i H b g hi => (show z.cps.size ≤ i by rw [← hl]; exact hi), fun i H x H' Gc d b g gc hd hy => ?_⟩
  obtain ⟨rfl, c, hc, rfl⟩ := hy
  refine ⟨Gc, Ext.refl gc, ?_⟩
  unfold sgnsD at hd
  rw [List.getElem?_map, Array.getElem?_toList, hc] at hd
  cases hd
  unfold RdD; rfl
theorem mi_sgn {tg : Expr} {c : Bool} (h : ME X W e d) : MI X W c tg e (iSgn d) := by
  obtain ⟨t, pa, oa⟩ := h
  refine ⟨_, pi_str pa, fun H0 G0 G ρ σ H R κ ε RR h hq hx => ?_⟩
  refine oa H0 G0 G ρ σ H _ _ ε RR h (fun v H1 G1 r x1 hr k => ?_) hx
  obtain ⟨z, rfl, k⟩ := asS.of k
  obtain rfl := rvS hr
  exact ⟨z, rfl, hq _ H1 G1 _ x1 itOk_str k⟩
end
end DL
/-! what holds no other: among its like -/
namespace DL
open PySem PySem.Spec PyProof.Rows L2
variable {K : PySem.W.Frag}
def flatD : Dat → Bool
  | .non => true
  | .bl _ => true
  | .int _ => true
  | .str _ => true
  | _ => false
def vD : Dat → V
  | .bl b => .bl b
  | .int i => .int i
  | .str s => .str s
  | _ => .non
theorem RdD.flat {G : Hp} {d : Dat} {v : V} (f : flatD d = true) (h : RdD K G d v) : v = vD d := by
  cases d <;> first
    | (unfold RdD at h; exact h)
    | exact absurd f Bool.false_ne_true
theorem flat_vD {d : Dat} (f : flatD d = true) : flatV (vD d) = true := by
  cases d <;> first | rfl | exact absurd f Bool.false_ne_true
theorem RdL.flat {G : Hp} : ∀ {ds : List Dat} {vs : List V}, ds.all flatD = true → RdL K G ds vs → vs = ds.map vD
  | [], vs, _, h => by unfold RdL at h; exact h
  | d :: ds, vs, f, h => by
    rw [List.all_cons, Bool.and_eq_true] at f
    unfold RdL at h
    obtain ⟨v, r, rfl, h1, h2⟩ := h
    rw [h1.flat f.1, RdL.flat f.2 h2]; rfl
theorem eqV_vD {a b : Dat} (fa : flatD a = true) (fb : flatD b = true) : eqV (vD a) (vD b) = eqD a b := by
  cases a <;> (first | exact absurd fa Bool.false_ne_true | skip) <;> cases b <;> (first | exact absurd fb Bool.false_ne_true | skip) <;> (first | rfl | (unfold eqV eqD; rfl))
theorem flat_all : ∀ {ds : List Dat}, ds.all flatD = true → (ds.map vD).all flatV = true
  | [], _ => rfl
  | d :: ds, f => by
    rw [List.all_cons, Bool.and_eq_true] at f
    rw [List.map_cons, List.all_cons, flat_vD f.1, flat_all f.2]; rfl
theorem inV_vD {d : Dat} (fd : flatD d = true) : ∀ {ds : List Dat}, ds.all flatD = true → inV (vD d) (ds.map vD) = ds.any fun e => eqD e d
  | [], _ => rfl
  | e :: ds, f => by
    rw [List.all_cons, Bool.and_eq_true] at f
    have ih := inV_vD fd f.2
    unfold inV at ih ⊢
    rw [List.map_cons, List.any_cons, List.any_cons, ih, eqV_vD f.1 fd]
def kInF (neg : Bool) : Rv → Rv → (Rv → Prop) → (Str → Prop) → Prop := fun x y κ _ => match y.dat with
  | .tup ds => flatD x.dat = true ∧ ds.all flatD = true ∧ κ (.v (.bl (if neg = true then !(ds.any fun e => eqD e x.dat) else ds.any fun e => eqD e x.dat)))
  | .lst ds => flatD x.dat = true ∧ ds.all flatD = true ∧ κ (.v (.bl (if neg = true then !(ds.any fun e => eqD e x.dat) else ds.any fun e => eqD e x.dat)))
  | _ => False
theorem rv_flat {H0 G Hs H : Hp} {x : Rv} {v : V} (f : flatD x.dat = true) (h : RvR K H0 G Hs H x v) : v = vD x.dat := by
  cases x with
  | v d => exact RdD.flat f h
  | n ds => exact absurd (show false = true from f) Bool.false_ne_true
  | b ds => exact absurd (show false = true from f) Bool.false_ne_true
  | o ds => exact absurd (show false = true from f) Bool.false_ne_true
theorem op2_inF {neg : Bool} : Op2 K (rIn K neg) (kInF neg) := by
  intro H0 G Hs H x y v u Q κ ε s s0 sh rx ry h q
  have go : ∀ ds, (y.dat = .lst ds ∨ y.dat = .tup ds) → (flatD x.dat = true ∧ ds.all flatD = true ∧ κ (.v (.bl (if neg = true then !(ds.any fun e => eqD e x.dat) else ds.any fun e => eqD e x.dat)))) → rIn K neg v u H Q := by
    intro ds e ⟨f1, f2, k⟩
    obtain ⟨a, vs, rfl, b, c⟩ := rvQ s s0 ry e
    have e1 := rv_flat f1 rx
    have e2 := c.flat f2
    subst e1 e2
    refine ⟨a, _, rfl, b, flat_vD f1, flat_all f2, ?_⟩
    rw [inV_vD f1 f2]
    exact q _ H G (.v (.bl _)) (Ext.refl s) toB k
  unfold kInF at h
  split at h
  · rename_i ds e
    exact go ds (.inr e) h
  · rename_i ds e
    exact go ds (.inl e) h
  · exact h.elim
def dInF (neg : Bool) := dBin (kInF neg)
section
variable {X : Cx} {W : WX} {a b : Expr} {da db : DE} {pos : Pos}
theorem me_inF (ha : ME X W a da) (hb : ME X W b db) (hm : behindInMarks .In b = false := by rfl) : ME X W (.Compare a [.In] [b] pos) (dInF false da db) := me_cmp op_in_seq op2_inF ha hb hm
theorem me_notinF (ha : ME X W a da) (hb : ME X W b db) (hm : behindInMarks .NotIn b = false := by rfl) : ME X W (.Compare a [.NotIn] [b] pos) (dInF true da db) := me_cmp op_notIn_seq op2_inF ha hb hm
theorem mt_inF (ha : ME X W a da) (hb : ME X W b db) (hm : behindInMarks .In b = false := by rfl) : MT X W (.Compare a [.In] [b] pos) (tVal (dInF false da db)) := mt_cmp op_in_seq op2_inF ha hb hm
theorem mt_notinF (ha : ME X W a da) (hb : ME X W b db) (hm : behindInMarks .NotIn b = false := by rfl) : MT X W (.Compare a [.NotIn] [b] pos) (tVal (dInF true da db)) := mt_cmp op_notIn_seq op2_inF ha hb hm
end
end DL
/-! x.replace(a, b, 1) with texts a, b written out, behind a test with a number in it -/
namespace DL
open PySem PySem.Spec PyProof.Rows L2 Builtin Builtin.Str
def rep1 (x y z : Str) : Str := match occurrences x y 0 x.length 1 with
  | i :: _ => strSub x 0 i ++ z ++ strSub x (i + y.length) x.length
  | [] => x
theorem rep1_tree (x y z : Str) (t u v w : Tok) : «str.replace» ⟨[.str x t, .str y u, .str z v, .int 1 w], []⟩ =
    (if ((occurrences x y 0 x.length 1).isEmpty || (y.length == 0 && z.length == 0)) = true then (do rule "str.replace.nothing"; ret (.str x t)) else
      (do let same ← isSame (.str y u) (.str z v)
          if same = true then (do rule "str.replace.old-is-new"; ret (.str x t)) else
          if tooLong (x.length + (occurrences x y 0 x.length 1).length * z.length) = true then unsupported "str.replace:memory" else
          retStr (glued z (partsBetween x (occurrences x y 0 x.length 1) y.length)))) := by
  show (do let limit ← countLimit "str.replace" (some (.int 1 w)) (x.length + 1); _) = _
  rw [countLimit_int "str.replace" 1 w (x.length + 1) rfl]
  rfl
theorem glued_one (x z : Str) (i n : Nat) : glued z (partsBetween x [i] n) = strSub x 0 i ++ z ++ strSub x (i + n) x.length := by
  rw [StrLaws.partsBetween_eq, StrLaws.glued_eq_join]
  rfl
theorem gives_rep1 (x y z : Str) (t u v w : Tok) (hy : (y.length == 0) = false) (h0 : (u == 0 || v == 0) = false) (huv : (u == v) = false) (hyz : (y == z) = false) (hl : x.length + z.length ≤ 16777216) :
    Gives («str.replace» ⟨[.str x t, .str y u, .str z v, .int 1 w], []⟩) (if ((occurrences x y 0 x.length 1).isEmpty || (y.length == 0 && z.length == 0)) = true then .val (.str x t) else .str (glued z (partsBetween x (occurrences x y 0 x.length 1) y.length))) := by
  rw [rep1_tree]
  cases hc : ((occurrences x y 0 x.length 1).isEmpty || (y.length == 0 && z.length == 0))
  · have h1 := StrLaws.occ_length_le x y 0 x.length 1
    have hl : tooLong (x.length + (occurrences x y 0 x.length 1).length * z.length) = false := by
      have h2 : (occurrences x y 0 x.length 1).length * z.length ≤ 1 * z.length := Nat.mul_le_mul_right _ h1
      unfold tooLong sizeLine
      have e : (2 : Nat) ^ 24 = 16777216 := by decide
      exact decide_eq_false (by omega)
    rw [isSame_str_other y z u v h0 huv hyz, hl]
    exact .of_eq rfl
  · exact .rule (.of_eq rfl)
theorem rep1_len (x y z : Str) : (rep1 x y z).length ≤ x.length + z.length := by
  unfold rep1
  cases h : occurrences x y 0 x.length 1 with
  | nil => exact Nat.le_add_right _ _
  | cons i r =>
    obtain ⟨hb, _⟩ := StrLaws.occ_spec x y 0 x.length 1 i (by rw [h]; exact List.mem_cons_self ..)
    show (strSub x 0 i ++ z ++ strSub x (i + y.length) x.length).length ≤ _
    rw [Str.length_append, Str.length_append]
    have h1 : (strSub x 0 i).length ≤ i := by
      show (x.cps.extract 0 i).size ≤ i
      rw [Array.size_extract]; omega
    have h2 : (strSub x (i + y.length) x.length).length ≤ x.length - (i + y.length) := by
      show (x.cps.extract (i + y.length) x.length).size ≤ _
      rw [Array.size_extract]; omega
    omega
theorem call_rep1 {prog : Program} {wd : World} {A : Around} {E : Value → Shared → Prop} {s : Shared} {x y z : Str} {t u v w : Tok} {Q : Value → Shared → Prop}
    (hy : (y.length == 0) = false) (hu : u ≠ 0) (hv : v ≠ 0) (huv : u ≠ v) (hyz : (y == z) = false) (hb : x.length + z.length ≤ 16777216)
    (hq : ∀ t' k, Q (.str (rep1 x y z) t') { s with toks := k }) : wpAny (model prog wd) A (call (.builtin "str.replace") [.str x t, .str y u, .str z v, .int 1 w]) Q E s := by
  refine call_gives F.slot_str_replace (typeIs_str _ _ _) F.entry_str_replace (F.args_str_replace_4 _ _ _ _)
    (gives_rep1 x y z t u v w hy (by simp [hu, hv]) (by simp [huv]) hyz hb) ?_
  have hl := rep1_len x y z
  have hq' := hq
  unfold rep1 at hq' hl
  have h1 := StrLaws.occ_length_le x y 0 x.length 1
  cases h : occurrences x y 0 x.length 1 with
  | nil =>
    rw [h] at hq'
    exact hq' t s.toks
  | cons i r =>
    rw [h] at hq' hl h1
    obtain rfl : r = [] := by
      cases r with
      | nil => rfl
      | cons a b => simp at h1
    have e : (((i :: ([] : List Nat)).isEmpty) || (y.length == 0 && z.length == 0)) = false := by rw [hy]; rfl
    rw [e]
    simp only [Bool.false_eq_true, if_false]
    rw [glued_one]
    refine ⟨?_, hq' _ _⟩
    have hl : (strSub x 0 i ++ z ++ strSub x (i + y.length) x.length).length ≤ x.length + z.length := hl
    exact Nat.le_trans hl (Nat.le_trans hb (by decide))
def tRep1 (to : TE) (y z : Str) : TE := fun σ H Q => to σ H fun v H1 => ∃ x, v = .str x ∧ x.length + z.length ≤ 16777216 ∧ Q (.str (rep1 x y z)) H1
section
variable {X : Cx} {W : WX} {o a : Expr} {to : TE} {y z : Str} {j k l m : Nat} {c0 c1 c2 c3 apos pos p p' p2 p3 : Pos} {d da : DE}
theorem pet_rep1 (ho : PE X o to) (hy : (y.length == 0) = false) (hyz : (y == z) = false)
    (hst : starEach [.Constant (.str y) j c0, .Constant (.str z) k c1, .Constant (.int 1) l c2] X.env = [(false, eval (.Constant (.str y) j c0) X.env), (false, eval (.Constant (.str z) k c1) X.env), (false, eval (.Constant (.int 1) l c2) X.env)])
    (hbase : attributeBase o "replace" X.env (eval o X.env) = eval o X.env) (hline : (apos.endLine == pos.line) = true) :
    PET X (.Call (.Attribute o "replace" apos) [.Constant (.str y) j c0, .Constant (.str z) k c1, .Constant (.int 1) l c2] [] pos) (tRep1 to y z) := by
  intro pins s σ H Q h0 I h
  refine PySem.wpAny_Call_method_lateS hbase (by rw [hst]; rfl) hline ?_
  rw [hst]
  show wpAny (model X.prog X.w) X.A (PySem.eval o X.env) (fun ov s₁ => MethodOnS X.prog X.w X.A X.xe "replace" ov pos [(false, PySem.eval (.Constant (.str y) j c0) X.env), (false, PySem.eval (.Constant (.str z) k c1) X.env), (false, PySem.eval (.Constant (.int 1) l c2) X.env)] (EP X pins σ Q) s₁) X.xe s
  refine (wpAny_mono (PySem.wpAny_toks (ho.run pins s σ H _ I h)) (fun v s1 q => ?_) fun _ _ z => z.2)
  obtain ⟨hk, v', H1, I1, r1, x, e1, hb, q⟩ := q
  subst e1
  obtain ⟨tx, e2⟩ := r1
  subst e2
  refine ⟨"str", _, PySem.F.plainAttrs_str, PySem.F.slot_str_replace, PySem.F.type_str_replace, typeIs_str _ _ _, (fun _ e => nomatch e), Calls.callWith_builtin rfl (Calls.evalArgs_plain (Calls.spliced_cons ?_))⟩
  refine Calls.Constant_str (Calls.spliced_cons (Calls.Constant_str (Calls.spliced_cons (wpAny_Constant_int (Calls.spliced_nil ?_)))))
  have h1 : s1.toks ≠ 0 := by omega
  have h2 : s1.toks + 1 ≠ 0 := by omega
  have h3 : s1.toks ≠ s1.toks + 1 := by omega
  refine call_rep1 (u := s1.toks) (v := s1.toks + 1) hy h1 h2 h3 hyz hb fun t' k => ?_
  exact ⟨.str (rep1 x y z), H1, I1.tok k, ⟨t', rfl⟩, q⟩
def dRep1 (o : DE) (y z : Str) : DE := fun ρ κ ε => o ρ (fun r => asS r fun x => x.length + z.length ≤ 16777216 ∧ κ (.v (.str (rep1 x y z)))) ε
theorem eok_rep1 {K : PySem.W.Frag} {mg : MG} {t : TE} (h : EOk K mg W t d) : EOk K mg W (tRep1 t y z) (dRep1 d y z) := by
  intro H0 G0 G ρ σ H Q κ ε R h1 hq hx
  refine h H0 G0 G ρ σ H _ _ ε R h1 (fun v H1 G1 x x1 rx h2 => ?_) hx
  obtain ⟨s, rfl, k1, k2⟩ := asS.of h2
  obtain rfl := rvS rx
  exact ⟨s, rfl, k1, hq _ H1 G1 _ x1 toS k2⟩
/-- if a == n: return o.replace(y, z, 1) -/
theorem ms_ifRep1 {n : Int} (hu : X.A.units + 64 < cLine) (ha : ME X W a da) (ho : ME X W o d) (hy : (y.length == 0) = false := by rfl) (hyz : (y == z) = false := by decide)
    (hst : starEach [.Constant (.str y) j c0, .Constant (.str z) k c1, .Constant (.int 1) l c2] X.env = [(false, eval (.Constant (.str y) j c0) X.env), (false, eval (.Constant (.str z) k c1) X.env), (false, eval (.Constant (.int 1) l c2) X.env)] := by rfl)
    (hbase : attributeBase o "replace" X.env (eval o X.env) = eval o X.env := by rfl) (hline : (apos.endLine == pos.line) = true := by rfl) :
    MS X W (.If (.Compare a [.Eq] [.Constant (.int n) m c3] p) [.Return (some (.Call (.Attribute o "replace" apos) [.Constant (.str y) j c0, .Constant (.str z) k c1, .Constant (.int 1) l c2] [] pos)) p2] [] p3)
      (sIf (tVal (dEq da (dC (.int n)))) (sRet (dRep1 d y z)) sNil) := by
  obtain ⟨ta, pa, oa⟩ := ha
  obtain ⟨to, po, oo⟩ := ho
  obtain ⟨tn, pn, on⟩ := me_int (X := X) (W := W) (i := n) (j := m) (pos := c3)
  have oc : TOk X.K X.mg W (tTest (tOp _ ta (tC (.int n)))) (tVal (dEq da (dC (.int n)))) := tok_val (eok_bin oa (eok_c fun _ => by unfold RdD; rfl) op2_eq)
  refine ⟨tIfS (tTest (tOp (rEqD X.K) ta (tC (.int n)))) (tRet (tRep1 to y z)) tNext, ⟨fun pins s σ H D I h => ?_⟩, fun H0 G0 G ρ σ H D κ R h E => ?_⟩
  rotate_left
  · refine oc H0 G0 G ρ σ H _ _ _ R h (fun k H' G' x hk => ?_) (E.xok R)
    have R' := R.on x
    by_cases hkk : k = true
    · rw [if_pos hkk] at hk ⊢
      exact eok_rep1 oo H0 G0 G' ρ σ H' _ _ _ R' hk (fun v H' G' r x hr k => E.rt v H' G' r (R'.ret x) (RvR.ret (G' := G') R'.ext.h hr) k.1 k.2) (E.xok R')
    · rw [if_neg hkk] at hk ⊢
      exact E.nx _ _ _ _ R' hk
  · refine wpAny_If ?_
    refine wpAny_isTrue_Compare1 (thn (pa.run pins s σ H _ I h) fun v s1 ⟨x, H1, I1, r1, q1⟩ => wpAny_Constant_int ?_) (nomark _)
    refine wpAny_mono (PySem.wpAny_toks (op_eqD hu pins _ σ H1 x (.int n) v _ (fun x H' => ∃ k, x = V.bl k ∧ (fun b H1 => if b = true then tRet (tRep1 to y z) D σ H1 else tNext D σ H1) k H') (I1.tok _) r1 ⟨_, rfl⟩ q1)) (fun c s3 z => ?_) fun _ _ z => z.2
    obtain ⟨hk, z, H3, I3, r3, b, e, q3⟩ := z
    subst e
    cases r3
    have hk : 1 ≤ s3.toks := Nat.le_trans (Nat.le_add_left 1 _) hk
    refine wpAny_truthy_bool ?_
    cases b with
    | false => exact wpAny_pure ⟨σ, H3, I3, q3⟩
    | true =>
      exact wpAny_execs_cons (wpAny_Return_some (thn (pet_rep1 po hy hyz hst hbase hline pins s3 σ H3 _ hk I3 q3) fun v s1 ⟨x, H1, I1, r1, q1⟩ => ⟨x, σ, H1, I1, r1, q1⟩))
end
end DL
/-! what divides two numbers -/
namespace Num
theorem gcd_fmod (a b : Int) : Int.gcd b (a.fmod b) = Int.gcd a b := by
  have e := Int.mul_fdiv_add_fmod a b
  refine Nat.dvd_antisymm ?_ ?_
  · refine Nat.dvd_gcd ?_ ?_
    · have h : ((Int.gcd b (a.fmod b) : Nat) : Int) ∣ b * a.fdiv b + a.fmod b := Int.dvd_add (Int.dvd_mul_of_dvd_left (Int.gcd_dvd_left _ _)) (Int.gcd_dvd_right _ _)
      rw [e] at h
      exact Int.ofNat_dvd_left.mp h
    · exact Int.ofNat_dvd_left.mp (Int.gcd_dvd_left _ _)
  · refine Nat.dvd_gcd ?_ ?_
    · exact Int.ofNat_dvd_left.mp (Int.gcd_dvd_right _ _)
    · refine Int.ofNat_dvd_left.mp ?_
      have : a.fmod b = a - b * a.fdiv b := by omega
      rw [this]
      exact Int.dvd_sub (Int.gcd_dvd_left _ _) (Int.dvd_mul_of_dvd_left (Int.gcd_dvd_right _ _))
theorem fmod_lt (a : Int) {b : Int} (h : b ≠ 0) : (a.fmod b).natAbs < b.natAbs := by
  rcases Int.lt_or_le 0 b with z | z
  · have h1 := Int.fmod_nonneg_of_pos a z
    have h2 := Int.fmod_lt_of_pos a z
    omega
  · have h1 := Int.fmod_nonneg_of_pos (-a) (show 0 < -b by omega)
    have h2 := Int.fmod_lt_of_pos (-a) (show 0 < -b by omega)
    have e1 := Int.mul_fdiv_add_fmod a b
    have e2 := Int.mul_fdiv_add_fmod (-a) (-b)
    rw [Int.neg_fdiv_neg, Int.neg_mul] at e2
    omega
theorem bez : ∀ (n : Nat) (a b : Int), b.natAbs < n → ∃ s t : Int, s * a + t * b = ((Int.gcd a b : Nat) : Int)
  | 0, a, b, h => (Nat.not_lt_zero _ h).elim
  | n + 1, a, b, h => by
    by_cases hb : b = 0
    · subst hb
      rw [Int.gcd_zero_right]
      rcases Int.le_total 0 a with z | z
      · exact ⟨1, 0, by omega⟩
      · exact ⟨-1, 0, by omega⟩
    · obtain ⟨s, t, e⟩ := bez n b (a.fmod b) (by have := fmod_lt a hb; omega)
      rw [gcd_fmod] at e
      refine ⟨t, s - t * a.fdiv b, ?_⟩
      have e2 := Int.mul_fdiv_add_fmod a b
      have : a.fmod b = a - b * a.fdiv b := by omega
      rw [this] at e
      rw [← e]; grind
theorem bezout (a b : Int) : ∃ s t : Int, s * a + t * b = ((Int.gcd a b : Nat) : Int) := bez (b.natAbs + 1) a b (by omega)
theorem gcd_pos (a : Int) {m : Int} (hm : m ≠ 0) : 0 < ((Int.gcd a m : Nat) : Int) := by
  have := Int.gcd_pos_of_ne_zero_right a hm
  omega
theorem gcd_ok (a : Int) {m : Int} (hm : 0 < m) : ∃ s t : Int, s * a + t * m = ((Int.gcd a m : Nat) : Int) ∧ 0 < ((Int.gcd a m : Nat) : Int) ∧ ((Int.gcd a m : Nat) : Int) ∣ a ∧ ((Int.gcd a m : Nat) : Int) ∣ m := by
  obtain ⟨s, t, e⟩ := bezout a m
  exact ⟨s, t, e, gcd_pos a (by omega), Int.gcd_dvd_left _ _, Int.gcd_dvd_right _ _⟩
open DL
structure Shares (a b g s t : Int) : Prop where
  g0 : 0 ≤ g
  e : s * a + t * b = g
  ga : g ∣ a
  gb : g ∣ b
  z : b = 0 → t = 0 ∧ s = (if a < 0 then -1 else if 0 < a then 1 else 0)
  nz : b ≠ 0 → 0 < g ∧ 0 ≤ s ∧ s < (b.natAbs : Int) / g
theorem abs_mul {x y : Int} : (x * y).natAbs = x.natAbs * y.natAbs := Int.natAbs_mul x y
theorem Shares.bt {a b g s t : Int} {k : Nat} (h : Shares a b g s t) (ha : Bt k a) (hb : Bt k b) (hk : 0 < k) : Bt k g ∧ Bt k s ∧ Bt (k + 1) t := by
  by_cases hz : b = 0
  · obtain ⟨h1, h2⟩ := h.z hz
    have hs : s.natAbs ≤ 1 := by rw [h2]; split <;> (try split) <;> decide
    have hg : g = s * a := by rw [← h.e, h1, hz]; simp
    refine ⟨ha.le_abs ?_, ?_, ?_⟩
    · rw [hg, abs_mul]
      have := Nat.mul_le_mul_right a.natAbs hs
      omega
    · rw [Bt.def]
      have : 2 ^ 1 ≤ 2 ^ k := Nat.pow_le_pow_right (by decide) hk
      omega
    · rw [h1, Bt.def]; exact Nat.pow_pos (by decide)
  · obtain ⟨g1, s0, s1⟩ := h.nz hz
    have hgb : g.natAbs ≤ b.natAbs := Nat.le_of_dvd (by omega) (Int.natAbs_dvd_natAbs.mpr h.gb)
    have hs : s.natAbs ≤ b.natAbs := by
      have : (b.natAbs : Int) / g ≤ b.natAbs := Int.ediv_le_self _ (by omega)
      omega
    refine ⟨hb.le_abs hgb, hb.le_abs hs, ?_⟩
    have e : t * b = g - s * a := by have := h.e; omega
    have e2 : t.natAbs * b.natAbs ≤ b.natAbs * (1 + a.natAbs) := by
      rw [← abs_mul, e]
      have h1 := Int.natAbs_sub_le g (s * a)
      rw [abs_mul] at h1
      have h2 := Nat.mul_le_mul_right a.natAbs hs
      rw [Nat.mul_add, Nat.mul_one]
      omega
    have e3 : t.natAbs ≤ 1 + a.natAbs := by
      rw [Nat.mul_comm] at e2
      exact Nat.le_of_mul_le_mul_left e2 (by omega)
    rw [Bt.def] at ha ⊢
    rw [Nat.pow_succ]
    have : 0 < 2 ^ k := Nat.pow_pos (by decide)
    omega
theorem Shares.uniq {a b g s t g' s' t' : Int} (h : Shares a b g s t) (h' : Shares a b g' s' t') : g = g' ∧ s = s' ∧ t = t' := by
  have e := h.e
  have e' := h'.e
  have g1 : g ∣ g' := by rw [← e']; exact Int.dvd_add (Int.dvd_mul_of_dvd_right h.ga) (Int.dvd_mul_of_dvd_right h.gb)
  have g2 : g' ∣ g := by rw [← e]; exact Int.dvd_add (Int.dvd_mul_of_dvd_right h'.ga) (Int.dvd_mul_of_dvd_right h'.gb)
  have gg : g = g' := Int.dvd_antisymm h.g0 h'.g0 g1 g2
  subst gg
  by_cases hb : b = 0
  · obtain ⟨z1, z2⟩ := h.z hb
    obtain ⟨z3, z4⟩ := h'.z hb
    exact ⟨rfl, by rw [z2, z4], by rw [z1, z3]⟩
  · obtain ⟨g0, s0, s1⟩ := h.nz hb
    obtain ⟨_, s0', s1'⟩ := h'.nz hb
    obtain ⟨A, eA⟩ := h.ga
    obtain ⟨B, eB⟩ := h.gb
    have eB' : (b.natAbs : Int) / g = B.natAbs := by
      have : (b.natAbs : Int) = g * (B.natAbs : Int) := by rw [eB, Int.natAbs_mul, Int.natCast_mul]; congr 1; omega
      rw [this, Int.mul_ediv_cancel_left _ (Int.ne_of_gt g0)]
    have one : s * A + t * B = 1 := by
      have : g * (s * A + t * B) = g * 1 := by rw [Int.mul_one]; conv => rhs; rw [← e, eA, eB]
                                               grind
      exact Int.eq_of_mul_eq_mul_left (Int.ne_of_gt g0) this
    have zero : (s - s') * A + (t - t') * B = 0 := by
      have : g * ((s - s') * A + (t - t') * B) = g * 0 := by
        have e1 : s * (g * A) + t * (g * B) = s' * (g * A) + t' * (g * B) := by rw [← eA, ← eB, e, e']
        grind
      exact Int.eq_of_mul_eq_mul_left (Int.ne_of_gt g0) this
    have dv : B ∣ s - s' := ⟨(s - s') * t - s * (t - t'), by grind⟩
    have hs : s = s' := by
      have d2 : B.natAbs ∣ (s - s').natAbs := Int.natAbs_dvd_natAbs.mpr dv
      rw [eB'] at s1 s1'
      have : (s - s').natAbs = 0 := Nat.eq_zero_of_dvd_of_lt d2 (by omega)
      omega
    refine ⟨rfl, hs, ?_⟩
    have : t * b = t' * b := by rw [hs] at e; omega
    exact Int.eq_of_mul_eq_mul_right hb this
theorem shares_ex (a b : Int) : ∃ p : Int × Int × Int, Shares a b p.1 p.2.1 p.2.2 := by
  obtain ⟨s0, t0, e⟩ := bezout a b
  by_cases hb : b = 0
  · subst hb
    rw [Int.gcd_zero_right] at e
    rcases Int.lt_trichotomy a 0 with h | h | h
    · exact ⟨(-a, -1, 0), by show 0 ≤ -a; omega, by show -1 * a + 0 * 0 = -a; omega, ⟨-1, by show a = -a * -1; omega⟩, ⟨0, by show (0 : Int) = -a * 0; omega⟩, fun _ => ⟨rfl, by show (-1 : Int) = _; rw [if_pos h]⟩, fun z => absurd rfl z⟩
    · exact ⟨(0, 0, 0), by show (0 : Int) ≤ 0; omega, by show 0 * a + 0 * 0 = 0; omega, ⟨0, by show a = 0 * 0; omega⟩, ⟨0, rfl⟩, fun _ => ⟨rfl, by show (0 : Int) = _; rw [if_neg (by omega), if_neg (by omega)]⟩, fun z => absurd rfl z⟩
    · exact ⟨(a, 1, 0), by show 0 ≤ a; omega, by show 1 * a + 0 * 0 = a; omega, ⟨1, by show a = a * 1; omega⟩, ⟨0, by show (0 : Int) = a * 0; omega⟩, fun _ => ⟨rfl, by show (1 : Int) = _; rw [if_neg (by omega), if_pos h]⟩, fun z => absurd rfl z⟩
  · have g0 := gcd_pos a hb
    have ga : ((Int.gcd a b : Nat) : Int) ∣ a := Int.gcd_dvd_left _ _
    have gb : ((Int.gcd a b : Nat) : Int) ∣ b := Int.gcd_dvd_right _ _
    generalize ((Int.gcd a b : Nat) : Int) = g at *
    obtain ⟨A, eA⟩ := ga
    obtain ⟨B, eB⟩ := gb
    have hB : B ≠ 0 := fun z => hb (by rw [eB, z, Int.mul_zero])
    have eB' : (b.natAbs : Int) / g = B.natAbs := by
      have : (b.natAbs : Int) = g * (B.natAbs : Int) := by rw [eB, Int.natAbs_mul, Int.natCast_mul]; congr 1; omega
      rw [this, Int.mul_ediv_cancel_left _ (Int.ne_of_gt g0)]
    have m0 : (0 : Int) < B.natAbs := by omega
    have em := Int.mul_ediv_add_emod s0 (B.natAbs : Int)
    obtain ⟨σ, hσ⟩ : ∃ σ : Int, (B.natAbs : Int) = σ * B := by
      rcases Int.le_total 0 B with z | z
      · exact ⟨1, by omega⟩
      · exact ⟨-1, by omega⟩
    refine ⟨(g, s0 % B.natAbs, t0 + (s0 / B.natAbs) * σ * A), Int.le_of_lt g0, ?_, ⟨A, eA⟩, ⟨B, eB⟩, fun z => absurd z hb, fun _ => ⟨g0, Int.emod_nonneg _ (by omega), by show s0 % _ < (b.natAbs : Int) / g; rw [eB']; exact Int.emod_lt_of_pos _ m0⟩⟩
    show s0 % B.natAbs * a + (t0 + (s0 / B.natAbs) * σ * A) * b = g
    rw [← e]
    generalize s0 / (B.natAbs : Int) = q at *
    generalize s0 % (B.natAbs : Int) = r at *
    rw [hσ] at em
    rw [← em, eA, eB]
    grind
/-- the shares of two numbers -/
noncomputable def sh (a b : Int) : Int × Int × Int := Classical.choose (shares_ex a b)
theorem sh_ok (a b : Int) : Shares a b (sh a b).1 (sh a b).2.1 (sh a b).2.2 := Classical.choose_spec (shares_ex a b)
theorem Shares.eq {a b g s t : Int} (h : Shares a b g s t) : sh a b = (g, s, t) := by
  obtain ⟨h1, h2, h3⟩ := (sh_ok a b).uniq h
  exact Prod.ext h1 (Prod.ext h2 h3)
theorem Shares.gcd {a b g s t : Int} (h : Shares a b g s t) : g = ((Int.gcd a b : Nat) : Int) := by
  refine Int.dvd_antisymm h.g0 (by omega) (Int.dvd_coe_gcd h.ga h.gb) ?_
  rw [← h.e]
  exact Int.dvd_add (Int.dvd_mul_of_dvd_right (Int.gcd_dvd_left _ _)) (Int.dvd_mul_of_dvd_right (Int.gcd_dvd_right _ _))
end Num
/-! lists of points, equal or not -/
namespace DL
open PySem PySem.Spec PyProof.Rows L2
theorem shp_ptsL (n : Nat) : ∀ ps : List Pt, shpL (n + 1) (ps.map pt) = true
  | [] => rfl
  | p :: ps => by show (shp (n + 1) (pt p) && shpL (n + 1) (ps.map pt)) = true; rw [shp_ptsL n ps]; rfl
theorem shp_pts (n : Nat) (ps : List Pt) : shp (n + 2) (.lst (ps.map pt)) = true := shp_ptsL n ps
theorem eqD_pt (p q : Pt) : eqD (pt p) (pt q) = decide (p = q) := by
  obtain ⟨a, b⟩ := p
  obtain ⟨c, d⟩ := q
  rw [Bool.eq_iff_iff, decide_eq_true_iff]
  simp [pt, eqD, eqDL, Prod.mk.injEq]
theorem eqDL_pts : ∀ ps qs : List Pt, eqDL (ps.map pt) (qs.map pt) = decide (ps = qs)
  | [], [] => by unfold eqDL; rfl
  | [], q :: qs => by rw [List.map_nil, List.map_cons]; unfold eqDL; simp
  | p :: ps, [] => by rw [List.map_nil, List.map_cons]; unfold eqDL; simp
  | p :: ps, q :: qs => by
    rw [List.map_cons, List.map_cons]
    unfold eqDL
    rw [eqD_pt, eqDL_pts ps qs, Bool.eq_iff_iff]
    simp
theorem eqD_pts (ps qs : List Pt) : eqD (.lst (ps.map pt)) (.lst (qs.map pt)) = decide (ps = qs) := by
  unfold eqD
  exact eqDL_pts ps qs
theorem ifPt {p q : Pt} {A B : Prop} (h1 : p = q → A) (h2 : p ≠ q → B) : if eqD (pt p) (pt q) = true then A else B := by
  rw [eqD_pt]; exact ifd h1 h2
theorem ifPtNe {p q : Pt} {A B : Prop} (h1 : p ≠ q → A) (h2 : p = q → B) : if (!eqD (pt p) (pt q)) = true then A else B := by
  rw [eqD_pt]
  by_cases h : p = q
  · rw [decide_eq_true h, if_neg (by decide)]; exact h2 h
  · rw [decide_eq_false h, if_pos (by decide)]; exact h1 h
theorem ifPts {p q : List Pt} {A B : Prop} (h1 : p = q → A) (h2 : p ≠ q → B) : if eqD (.lst (p.map pt)) (.lst (q.map pt)) = true then A else B := by
  rw [eqD_pts]; exact ifd h1 h2
theorem ifPtsNe {p q : List Pt} {A B : Prop} (h1 : p ≠ q → A) (h2 : p = q → B) : if (!eqD (.lst (p.map pt)) (.lst (q.map pt))) = true then A else B := by
  rw [eqD_pts]
  by_cases h : p = q
  · rw [decide_eq_true h, if_neg (by decide)]; exact h2 h
  · rw [decide_eq_false h, if_pos (by decide)]; exact h1 h
theorem onS_at {l : List Dat} {r j : Int} {d : Dat} {k : Dat → Prop} (e : r = j) (h : atI l j = some d) (q : k d) : onS (atI l r) k := by rw [e]; exact onS_some h q
/-- a place by what is left over -/
theorem onS_mod {l : List Dat} {b n : Int} {k : Dat → Prop} (hn : (l.length : Int) = n) (h0 : 0 < n) (h : ∀ d ∈ l, k d) : onS (atI l (b % n)) k := by
  subst hn
  have h1 := Int.emod_nonneg b (Int.ne_of_gt h0)
  have h2 := Int.emod_lt_of_pos b h0
  have hj : (b % (l.length : Int)).toNat < l.length := by omega
  refine onS_at (j := ((b % (l.length : Int)).toNat : Int)) (by omega) (atI_nat (List.getElem?_eq_getElem hj)) (h _ (List.getElem_mem hj))
end DL
/-! a thing is like itself; places of a list -/
namespace DL
open PySem PySem.Spec PyProof.Rows L2
mutual
theorem eqD_refl : ∀ (n : Nat) (d : Dat), shp n d = true → eqD d d = true
  | n, .non, _ => by unfold eqD; rfl
  | n, .bl b, _ => by unfold eqD; cases b <;> rfl
  | n, .int i, _ => by unfold eqD; exact beq_self_eq_true i
  | n, .str x, _ => by unfold eqD; exact beq_self_eq_true x
  | n + 1, .tup ds, h => by unfold eqD; unfold shp at h; exact eqDL_refl n ds h
  | n + 1, .lst ds, h => by unfold eqD; unfold shp at h; exact eqDL_refl n ds h
  | 0, .tup ds, h => by unfold shp at h; exact nomatch h
  | 0, .lst ds, h => by unfold shp at h; exact nomatch h
  | 0, .dic ks, h => by unfold shp at h; exact nomatch h
  | n + 1, .dic ks, h => by unfold shp at h; exact nomatch h
theorem eqDL_refl : ∀ (n : Nat) (ds : List Dat), shpL n ds = true → eqDL ds ds = true
  | n, [], _ => by unfold eqDL; rfl
  | n, d :: ds, h => by
    unfold shpL at h
    rw [Bool.and_eq_true] at h
    unfold eqDL
    rw [eqD_refl n d h.1, eqDL_refl n ds h.2]; rfl
end
theorem shpL_append (n : Nat) : ∀ {ds es : List Dat}, shpL n ds = true → shpL n es = true → shpL n (ds ++ es) = true
  | [], es, _, h => h
  | d :: ds, es, h, h' => by
    unfold shpL at h
    rw [Bool.and_eq_true] at h
    rw [List.cons_append]
    unfold shpL
    rw [h.1, shpL_append n h.2 h']; rfl
mutual
theorem shp_up {n m : Nat} (h : n ≤ m) : ∀ {d : Dat}, shp n d = true → shp m d = true
  | .non, _ => by unfold shp; rfl
  | .bl b, _ => by unfold shp; rfl
  | .int i, _ => by unfold shp; rfl
  | .str x, hd => by unfold shp at hd ⊢; exact hd
  | .tup ds, hd => by
    match n, m, h, hd with
    | 0, _, _, hd => unfold shp at hd; exact nomatch hd
    | n + 1, m + 1, h, hd => unfold shp at hd ⊢; exact shpL_up (Nat.le_of_succ_le_succ h) hd
  | .lst ds, hd => by
    match n, m, h, hd with
    | 0, _, _, hd => unfold shp at hd; exact nomatch hd
    | n + 1, m + 1, h, hd => unfold shp at hd ⊢; exact shpL_up (Nat.le_of_succ_le_succ h) hd
  | .dic ks, hd => by
    match n, hd with
    | 0, hd => unfold shp at hd; exact nomatch hd
    | n + 1, hd => unfold shp at hd; exact nomatch hd
theorem shpL_up {n m : Nat} (h : n ≤ m) : ∀ {ds : List Dat}, shpL n ds = true → shpL m ds = true
  | [], _ => by unfold shpL; rfl
  | d :: ds, hd => by
    unfold shpL at hd ⊢
    rw [Bool.and_eq_true] at hd ⊢
    exact ⟨shp_up h hd.1, shpL_up h hd.2⟩
end
theorem shpL_ints (n : Nat) : ∀ l : List Int, shpL n (l.map Dat.int) = true
  | [] => by unfold shpL; rfl
  | i :: l => by
    rw [List.map_cons]
    unfold shpL
    rw [shpL_ints n l]
    cases n <;> rfl
theorem ixN_nat {n j : Nat} (h : j < n) : ixN n (j : Int) = some j := by
  unfold ixN
  simp [h]
theorem at_end {α : Type} {f : α → Dat} {xs : List α} (h : xs ≠ []) : ∃ x ∈ xs, atI (xs.map f) (-1) = some (f x) := by
  have hl : 0 < xs.length := List.length_pos_iff.mpr h
  refine ⟨xs[xs.length - 1], List.getElem_mem _, ?_⟩
  unfold atI ixN
  rw [if_neg (by decide), if_pos (by rw [List.length_map]; omega)]
  have : ((-1 : Int) + ((xs.map f).length : Int)).toNat = xs.length - 1 := by rw [List.length_map]; omega
  rw [this]
  show (xs.map f)[xs.length - 1]? = _
  rw [List.getElem?_map, List.getElem?_eq_getElem (by omega)]; rfl
theorem at_first {α : Type} {f : α → Dat} {xs : List α} (h : xs ≠ []) : ∃ x ∈ xs, atI (xs.map f) 0 = some (f x) := by
  match xs, h with
  | x :: xs, _ => exact ⟨x, by simp, at_mapI (j := 0) rfl rfl⟩
theorem eqD_ints (l m : List Int) : eqD (.lst (l.map Dat.int)) (.lst (m.map Dat.int)) = decide (l = m) := by
  unfold eqD
  induction l generalizing m with
  | nil => cases m with
    | nil => unfold eqDL; simp
    | cons b m => rw [List.map_cons]; simp [eqDL]
  | cons a l ih => cases m with
    | nil => rw [List.map_cons]; simp [eqDL]
    | cons b m =>
      rw [List.map_cons, List.map_cons]
      unfold eqDL
      rw [ih]
      have : eqD (.int a) (.int b) = (a == b) := by unfold eqD; rfl
      rw [this, Bool.eq_iff_iff]
      simp
theorem own_ind {k : Nat} {all : List Dat} {g : DG} {t : DT} {a : DS} {κ : DEnds} (I : List Sl → Prop) (fin : ∀ ρ, I ρ → κ.nx ρ) : ∀ (ds : List Dat),
    (∀ d ∈ ds, ∀ (ρ : List Sl) (N : List Sl → Prop), I ρ → (∀ ρ', I ρ' → N ρ') → g (.v d) ρ (fun ρ1 => ρ1[k]? = some (.ow all) ∧ t ρ1 (fun c => if c = true then a { κ with nx := fun _ => False, ct := fun _ => False, bk := fun _ => False } ρ1 else N ρ1) (fun nm => κ.ex nm ρ1))) → ∀ {ρ : List Sl}, I ρ → sOwnL k all g t a κ ds ρ
  | [], _, ρ, h => fin ρ h
  | d :: ds, step, ρ, h => step d (by simp) ρ _ h fun ρ' h' => own_ind I fin ds (fun e he => step e (List.mem_cons_of_mem _ he)) h'
theorem cutD_drop (ds : List Dat) {j : Nat} (hj : j ≤ ds.length) : cutD ds (some (j : Int)) none = ds.drop j := by
  unfold cutD
  rw [HT.sIx_none, HT.sIx_nat, Nat.min_eq_left hj]
  exact List.take_of_length_le (by rw [List.length_drop]; omega)
theorem nine {a b c d e f g h i : Dat} {n : Int} {P : Dat → Prop} (h0 : P a) (h1 : P b) (h2 : P c) (h3 : P d) (h4 : P e) (h5 : P f) (h6 : P g) (h7 : P h) (h8 : P i) : onS (atI [a, b, c, d, e, f, g, h, i] (n % 9)) P := by
  have : ∃ k : Nat, k < 9 ∧ n % 9 = (k : Int) := ⟨(n % 9).toNat, by omega, by omega⟩
  obtain ⟨k, hk, e⟩ := this
  rw [e]
  match k, hk with
  | 0, _ => exact onS_some rfl h0
  | 1, _ => exact onS_some rfl h1
  | 2, _ => exact onS_some rfl h2
  | 3, _ => exact onS_some rfl h3
  | 4, _ => exact onS_some rfl h4
  | 5, _ => exact onS_some rfl h5
  | 6, _ => exact onS_some rfl h6
  | 7, _ => exact onS_some rfl h7
  | 8, _ => exact onS_some rfl h8
end DL
/-! numbers as texts -/
namespace Txp
open DL PySem PySem.Spec PyProof.Rows L2 TL
/-- the figures behind a sign or none -/
def figs (x : Str) : List Nat := if (tl x)[0]? = some 45 then (tl x).drop 1 else tl x
def OkF (x : Str) : Prop := 1 ≤ (figs x).length ∧ (figs x).length ≤ 60 ∧ NumText.AllDigits (figs x) ∧ ¬ ((figs x)[0]? = some 48 ∧ tl x ≠ [48])
instance (x : Str) : Decidable (OkF x) := by
  unfold OkF NumText.AllDigits
  exact inferInstance
def valS (x : Str) : Option Int := if OkF x then some (if (tl x)[0]? = some 45 then -((NumText.digitsVal (figs x) : Nat) : Int) else ((NumText.digitsVal (figs x) : Nat) : Int)) else none
theorem snoc_ind {P : List Nat → Prop} (h0 : P []) (h1 : ∀ f c, P f → P (f ++ [c])) (f : List Nat) : P f := by
  have key : ∀ l : List Nat, P l.reverse := fun l => by
    induction l with
    | nil => exact h0
    | cons a l ih => rw [List.reverse_cons]; exact h1 _ _ ih
  rw [← List.reverse_reverse f]
  exact key f.reverse
theorem dv_snoc (f : List Nat) (c : Nat) : NumText.digitsVal (f ++ [c]) = NumText.digitsVal f * 10 + (c - 48) := by
  unfold NumText.digitsVal
  rw [List.foldl_append]; rfl
theorem dv_pos : ∀ (f : List Nat), NumText.AllDigits f → ∀ c, f[0]? = some c → c ≠ 48 → 1 ≤ NumText.digitsVal f := by
  refine snoc_ind (fun _ c h => by simp at h) fun f d ih => ?_
  · intro ha c h n
    rw [dv_snoc]
    by_cases e : f = []
    · subst e
      simp at h
      subst h
      have := ha d (by simp)
      omega
    · have hl : 0 < f.length := List.length_pos_iff.mpr e
      rw [List.getElem?_append_left hl] at h
      have := ih (fun x hx => ha x (by simp [hx])) c h n
      omega
theorem num_inv : ∀ (f : List Nat), NumText.AllDigits f → f ≠ [] → (f.length = 1 ∨ f[0]? ≠ some 48) → numL (NumText.digitsVal f) = f := by
  refine snoc_ind (fun _ h => absurd rfl h) fun f d ih => ?_
  · intro ha _ h0
    have hd := ha d (by simp)
    have hf : NumText.AllDigits f := fun x hx => ha x (by simp [hx])
    rw [dv_snoc]
    by_cases e : f = []
    · subst e
      rw [show NumText.digitsVal [] * 10 + (d - 48) = d - 48 by unfold NumText.digitsVal; simp, numL_lt (by omega)]
      show [48 + (d - 48)] = [d]
      rw [show 48 + (d - 48) = d by omega]
    · have hl : 0 < f.length := List.length_pos_iff.mpr e
      have h1 : f[0]? ≠ some 48 := by
        rcases h0 with h0 | h0
        · rw [List.length_append] at h0
          have : ([d] : List Nat).length = 1 := rfl
          omega
        · rw [List.getElem?_append_left hl] at h0; exact h0
      obtain ⟨c, hc⟩ : ∃ c, f[0]? = some c := ⟨f[0], List.getElem?_eq_getElem hl⟩
      have p := dv_pos f hf c hc fun z => h1 (by rw [hc, z])
      rw [numL_step (by omega), show (NumText.digitsVal f * 10 + (d - 48)) / 10 = NumText.digitsVal f by omega, show (NumText.digitsVal f * 10 + (d - 48)) % 10 = d - 48 by omega, ih hf e (.inr h1), show 48 + (d - 48) = d by omega]
theorem tl_neg (m : Nat) : tl (Str.ofString (toString (-(((m + 1 : Nat)) : Int)))) = 45 :: numL (m + 1) := by
  have e : toString (-(((m + 1 : Nat)) : Int)) = "-" ++ toString ((m + 1 : Nat) : Int) := by
    show toString (Int.negSucc m) = _
    rfl
  rw [e, tl_ofString, String.toList_append, List.map_append, ← tl_ofString, ← tl_ofString, tl_num]
  rfl
/-- the number read is shown as the text -/
theorem show_back {x : Str} {n : Int} (h : valS x = some n) : Str.ofString (toString n) = x := by
  unfold valS at h
  split at h
  · rename_i ok
    obtain ⟨l1, l2, ad, nz⟩ := ok
    injection h with h
    apply ext_tl
    unfold figs at *
    by_cases sg : (tl x)[0]? = some 45
    · simp only [if_pos sg] at *
      have hx : tl x = 45 :: (tl x).drop 1 := by
        cases e : tl x with
        | nil => rw [e] at sg; simp at sg
        | cons a r => rw [e] at sg; simp at sg; subst sg; simp
      have n1 : ((tl x).drop 1)[0]? ≠ some 48 := fun z => nz ⟨z, fun y => by rw [y] at sg; simp at sg⟩
      generalize (tl x).drop 1 = f at *
      obtain ⟨c, hc⟩ : ∃ c, f[0]? = some c := ⟨f[0], List.getElem?_eq_getElem (by omega)⟩
      have p := dv_pos f ad c hc fun z => n1 (by rw [hc, z])
      have inv := num_inv f ad (by intro z; rw [z] at l1; simp at l1) (.inr n1)
      obtain ⟨m, hm⟩ : ∃ m, NumText.digitsVal f = m + 1 := ⟨NumText.digitsVal f - 1, by omega⟩
      rw [hm] at h inv
      rw [← h, tl_neg, inv, hx]
    · simp only [if_neg sg] at *
      have e2 : (tl x).length = 1 ∨ (tl x)[0]? ≠ some 48 := by
        by_cases z : (tl x)[0]? = some 48
        · left
          have : tl x = [48] := Decidable.byContradiction fun y => nz ⟨z, y⟩
          rw [this]; rfl
        · exact .inr z
      have inv := num_inv (tl x) ad (by intro z; rw [z] at l1; simp at l1) e2
      rw [← h, tl_num, inv]
  · exact nomatch h
/-- what int() makes of such a text -/
theorem int_val {x : Str} {n : Int} (h : valS x = some n) : intText? x = some n ∧ x.length ≤ 61 := by
  unfold valS at h
  split at h
  · rename_i ok
    obtain ⟨l1, l2, ad, nz⟩ := ok
    injection h with h
    have lx := len_tl x
    unfold figs at *
    by_cases sg : (tl x)[0]? = some 45
    · simp only [if_pos sg] at *
      have hx : tl x = 45 :: (tl x).drop 1 := by
        cases e : tl x with
        | nil => rw [e] at sg; simp at sg
        | cons a r => rw [e] at sg; simp at sg; subst sg; simp
      have ll : x.length ≤ 61 := by rw [lx, hx, List.length_cons]; omega
      refine ⟨?_, ll⟩
      rw [← h]
      exact intText_neg hx ad (by intro z; rw [z] at l1; simp at l1) (by omega)
    · simp only [if_neg sg] at *
      have ll : x.length ≤ 61 := by rw [lx]; omega
      refine ⟨?_, ll⟩
      rw [← h]
      exact intText_digits ad (by intro z; have z : tl x = [] := z; rw [z] at l1; simp at l1) (by omega)
  · exact nomatch h
theorem starts_one (x : Str) (c : Nat) : Txt.startswith x ⟨#[c]⟩ = decide ((tl x)[0]? = some c) := by
  unfold Txt.startswith
  rw [Bool.eq_iff_iff, decide_eq_true_iff, Bool.and_eq_true, decide_eq_true_iff]
  exact StrLaws.subAt_one x c 0
theorem find_fig {c : Nat} (h : 48 ≤ c ∧ c ≤ 57) : Txt.find "0123456789" ⟨#[c]⟩ = (c : Int) - 48 := by
  have hc : c = 48 ∨ c = 49 ∨ c = 50 ∨ c = 51 ∨ c = 52 ∨ c = 53 ∨ c = 54 ∨ c = 55 ∨ c = 56 ∨ c = 57 := by omega
  rcases hc with rfl | rfl | rfl | rfl | rfl | rfl | rfl | rfl | rfl | rfl <;> decide +kernel
theorem mem_figs {c : Nat} : c ∈ tl (Str.ofString "0123456789") ↔ 48 ≤ c ∧ c ≤ 57 := by
  have e : tl (Str.ofString "0123456789") = [48, 49, 50, 51, 52, 53, 54, 55, 56, 57] := by decide +kernel
  rw [e]
  simp only [List.mem_cons, List.not_mem_nil, or_false]
  omega
theorem find_no {c : Nat} (h : ¬ (48 ≤ c ∧ c ≤ 57)) : Txt.find "0123456789" ⟨#[c]⟩ = -1 := by
  have := StrLaws.found_one (Str.ofString "0123456789") c
  have e : decide (c ∈ (Str.ofString "0123456789").cps.toList) = false := decide_eq_false fun z => h (mem_figs.mp z)
  rw [e] at this
  unfold Txt.find
  cases q : Builtin.Str.occurrences (Str.ofString "0123456789") ⟨#[c]⟩ 0 (Str.ofString "0123456789").length 1 with
  | nil => rfl
  | cons a r => rw [q] at this; exact nomatch this
/-! ### plain texts -/
structure Asc (n : Nat) (x : Str) : Prop where
  len : x.length ≤ n
  lt : ∀ c ∈ tl x, c < 128
theorem Asc.mono {m n : Nat} {x : Str} (h : Asc m x) (hn : m ≤ n) : Asc n x := ⟨Nat.le_trans h.len hn, h.lt⟩
theorem Asc.ok {n : Nat} {x : Str} (h : Asc n x) : PyData.strOk x = true := by
  unfold PyData.strOk
  rw [Array.all_eq_true']
  intro c hc
  have := h.lt c (Array.mem_toList_iff.mpr hc)
  exact decide_eq_true (by omega)
theorem Asc.app {m n : Nat} {x y : Str} (h : Asc m x) (g : Asc n y) : Asc (m + n) (x ++ y) := by
  refine ⟨?_, fun c hc => ?_⟩
  · rw [len_tl, tl_append, List.length_append, ← len_tl, ← len_tl]
    exact Nat.add_le_add h.len g.len
  · rw [tl_append] at hc
    rcases List.mem_append.mp hc with z | z
    · exact h.lt c z
    · exact g.lt c z
theorem Asc.cut {n : Nat} {x : Str} (h : Asc n x) (lo hi : Option Int) : Asc n (cutS x lo hi) := by
  refine ⟨Nat.le_trans (cutS_length x lo hi) h.len, fun c hc => ?_⟩
  have hc : c ∈ (x.cps.toList.drop _).take _ := hc
  exact h.lt c (List.mem_of_mem_drop (List.mem_of_mem_take hc))
theorem Asc.sz {n : Nat} {x : Str} (h : Asc n x) (hn : n ≤ 100000) : x.length ≤ sizeLine := Nat.le_trans h.len (Nat.le_trans hn (by decide))
theorem Asc.one {c : Nat} (h : c < 128) : Asc 1 ⟨#[c]⟩ := ⟨Nat.le_refl _, fun d hd => by
  have e : d = c := by simpa using hd
  omega⟩
theorem asc_int {i : Int} {k : Nat} (hk : 0 < k) (h : i.natAbs < 10 ^ k) : Asc (k + 1) (Str.ofString (toString i)) := by
  have dg : ∀ (m : Nat) c, c ∈ numL m → c < 128 := fun m c hc => by have := numL_digits m c hc; omega
  rcases Int.lt_or_le i 0 with z | z
  · obtain ⟨m, rfl⟩ : ∃ m : Nat, i = -(((m + 1 : Nat)) : Int) := ⟨(-i).toNat - 1, by omega⟩
    refine ⟨?_, fun c hc => ?_⟩
    · rw [len_tl, tl_neg, List.length_cons]
      have := numL_len (n := m + 1) hk (by have : (-(((m + 1 : Nat)) : Int)).natAbs = m + 1 := by omega
                                           omega)
      omega
    · rw [tl_neg] at hc
      rcases List.mem_cons.mp hc with rfl | hc
      · omega
      · exact dg _ c hc
  · obtain ⟨m, rfl⟩ : ∃ m : Nat, i = (m : Int) := ⟨i.toNat, by omega⟩
    refine ⟨?_, fun c hc => ?_⟩
    · rw [len_tl, tl_num]
      have := numL_len (n := m) hk (by omega)
      omega
    · rw [tl_num] at hc
      exact dg _ c hc
theorem atN {L : List Nat} {n : Nat} (h : L.length = n) (h0 : 0 < n) (i : Int) : ∃ c ∈ L, atI L (i % (n : Int)) = some c := by
  have h1 : 0 ≤ i % (n : Int) := Int.emod_nonneg _ (by omega)
  have h2 : i % (n : Int) < (n : Int) := Int.emod_lt_of_pos _ (by omega)
  have hl : (i % (n : Int)).toNat < L.length := by omega
  refine ⟨L[(i % (n : Int)).toNat], List.getElem_mem _, ?_⟩
  have := at_mapI (f := fun c : Nat => Dat.int (c : Int)) (xs := L) (x := L[(i % (n : Int)).toNat]) (i := i % (n : Int)) (j := (i % (n : Int)).toNat) (by omega) (List.getElem?_eq_getElem hl)
  unfold atI at this ⊢
  rw [List.length_map] at this
  cases e : ixN L.length (i % (n : Int)) with
  | none => rw [e] at this; exact nomatch this
  | some j =>
    rw [e] at this
    show L[j]? = _
    have t : (L.map fun c : Nat => Dat.int (c : Int))[j]? = some _ := this
    rw [List.getElem?_map] at t
    obtain ⟨y, hy, e2⟩ := Option.map_eq_some_iff.mp t
    rw [hy]
    have e2 : (y : Int) = (L[(i % (n : Int)).toNat] : Int) := by injection e2
    have : y = L[(i % (n : Int)).toNat] := by exact_mod_cast e2
    rw [this]
end Txp
namespace Txp
open DL PySem PySem.Spec PyProof.Rows L2 TL
theorem at_nat {α : Type} (L : List α) {i : Int} {j : Nat} (e : i = (j : Int)) (h : j < L.length) : atI L i = L[j]? := by
  subst e
  unfold atI ixN
  rw [if_pos (by omega), if_pos (by omega), Int.toNat_natCast]; rfl
theorem at_zero {α : Type} (L : List α) (h : 0 < L.length) : atI L 0 = L[0]? := at_nat L (i := 0) (j := 0) rfl h
theorem at_emod {α : Type} {L : List α} {n : Nat} (h : L.length = n) (h0 : 0 < n) (i : Int) : ∃ c ∈ L, atI L (i % (n : Int)) = some c := by
  have h1 : 0 ≤ i % (n : Int) := Int.emod_nonneg _ (by omega)
  have h2 : i % (n : Int) < (n : Int) := Int.emod_lt_of_pos _ (by omega)
  have hl : (i % (n : Int)).toNat < L.length := by omega
  exact ⟨L[(i % (n : Int)).toNat], List.getElem_mem _, by rw [at_nat L (j := (i % (n : Int)).toNat) (by omega) hl, List.getElem?_eq_getElem hl]⟩
theorem shpS {n : Nat} {x : Str} (h : PyData.strOk x = true) : shp n (.str x) = true := by
  cases n <;> (unfold shp; exact h)
theorem eqD_str (x y : Str) : eqD (.str x) (.str y) = decide (x = y) := by
  show (x == y) = _
  rw [Bool.eq_iff_iff, beq_iff_eq, decide_eq_true_iff]
theorem ifS {x y : Str} {A B : Prop} (h1 : x = y → A) (h2 : x ≠ y → B) : if eqD (.str x) (.str y) = true then A else B := by
  rw [eqD_str]; exact ifd h1 h2
theorem ifSne {x y : Str} {A B : Prop} (h1 : x ≠ y → A) (h2 : x = y → B) : if (!eqD (.str x) (.str y)) = true then A else B := by
  rw [eqD_str]
  exact ifNot (fun h => h1 (of_decide_eq_false h)) fun h => h2 (of_decide_eq_true h)
theorem str_one (c : Nat) (x : Str) (h : tl x = [c]) : x = ⟨#[c]⟩ := ext_tl h
theorem minus : Str.ofString "-" = ⟨#[45]⟩ := by decide +kernel
theorem nought : Str.ofString "0" = ⟨#[48]⟩ := by decide +kernel
theorem empty_ : Str.ofString "" = ⟨#[]⟩ := by decide +kernel
theorem one_inj {a b : Nat} : ((⟨#[a]⟩ : Str) = ⟨#[b]⟩) ↔ a = b := by
  constructor
  · intro h
    injection h with h
    have := congrArg Array.toList h
    simpa using this
  · rintro rfl; rfl
theorem tl_rest (x : Str) : tl (cutS x (some 1) none) = (tl x).drop 1 := by
  show (x.cps.toList.drop (HT.sIx x.length 0 (some 1))).take (x.length - HT.sIx x.length 0 (some 1)) = _
  have e : HT.sIx x.length 0 (some 1) = min 1 x.length := HT.sIx_nat x.length 0 1
  rw [e, len_tl]
  show ((tl x).drop (min 1 (tl x).length)).take ((tl x).length - min 1 (tl x).length) = _
  cases tl x with
  | nil => rfl
  | cons a r =>
    rw [List.length_cons, Nat.min_eq_left (by omega)]
    show r.take (r.length + 1 - 1) = r
    rw [Nat.add_sub_cancel, List.take_length]
theorem tl_head (x : Str) : tl (cutS x none (some 1)) = (tl x).take 1 := by
  show (x.cps.toList.drop 0).take (HT.sIx x.length x.length (some 1) - 0) = _
  have e : HT.sIx x.length x.length (some 1) = min 1 x.length := HT.sIx_nat x.length x.length 1
  rw [e, len_tl, List.drop_zero, Nat.sub_zero]
  show (tl x).take (min 1 (tl x).length) = _
  cases tl x with
  | nil => rfl
  | cons a r => rw [List.length_cons, Nat.min_eq_left (by omega)]
theorem head_minus (x : Str) : cutS x none (some 1) = Str.ofString "-" ↔ (tl x)[0]? = some 45 := by
  rw [minus]
  constructor
  · intro h
    have := congrArg tl h
    rw [tl_head] at this
    cases e : tl x with
    | nil => rw [e] at this; exact nomatch this
    | cons a r =>
      rw [e] at this
      have : [a] = [45] := this
      injection this with h1
      rw [h1]; rfl
  · intro h
    apply ext_tl
    rw [tl_head]
    cases e : tl x with
    | nil => rw [e] at h; simp at h
    | cons a r => rw [e] at h; simp at h; subst h; rfl
theorem dv_lt : ∀ f : List Nat, NumText.AllDigits f → NumText.digitsVal f < 10 ^ f.length := by
  refine snoc_ind (fun _ => by decide) fun f d ih => ?_
  intro ha
  have := ih fun x hx => ha x (by simp [hx])
  have hd := ha d (by simp)
  rw [dv_snoc, List.length_append]
  show _ < 10 ^ (f.length + 1)
  rw [Nat.pow_succ]
  omega
/-- of any data -/
def valD : Dat → Option Int
  | .str x => valS x
  | _ => none
def optI : Option Int → Dat
  | none => .non
  | some n => .int n
end Txp
/-! points as texts -/
namespace Txp
open DL PySem PySem.Spec PyProof.Rows L2 TL
def bef (x : Str) : Str := ⟨((tl x).takeWhile (· != 44)).toArray⟩
def aft (x : Str) : Str := ⟨(((tl x).dropWhile (· != 44)).drop 1).toArray⟩
theorem tl_bef (x : Str) : tl (bef x) = (tl x).takeWhile (· != 44) := List.toList_toArray
theorem tl_aft (x : Str) : tl (aft x) = ((tl x).dropWhile (· != 44)).drop 1 := List.toList_toArray
/-- the point that a text writes -/
def ptS (x : Str) : Option (Int × Int) := if 44 ∈ tl x then (valS (bef x)).bind fun a => (valS (aft x)).map fun b => (a, b) else none
theorem tl_app (x y : Str) : tl (x ++ y) = tl x ++ tl y := by
  show (x ++ y).cps.toList = _
  rw [Str.cps_append, Array.toList_append]
theorem while_cut : ∀ (p q : List Nat), 44 ∉ p → (p ++ 44 :: q).takeWhile (· != 44) = p ∧ ((p ++ 44 :: q).dropWhile (· != 44)).drop 1 = q
  | [], q, _ => ⟨rfl, rfl⟩
  | a :: p, q, h => by
    have ha : (a != 44) = true := by
      rw [bne_iff_ne]; rintro rfl; exact h (by simp)
    obtain ⟨h1, h2⟩ := while_cut p q fun z => h (by simp [z])
    rw [List.cons_append, List.takeWhile_cons, List.dropWhile_cons, if_pos ha, if_pos ha, h1]
    exact ⟨rfl, h2⟩
theorem two_of {x p q : Str} (h : tl x = tl p ++ 44 :: tl q) (hp : 44 ∉ tl p) : bef x = p ∧ aft x = q ∧ 44 ∈ tl x := by
  obtain ⟨h1, h2⟩ := while_cut (tl p) (tl q) hp
  refine ⟨ext_tl ?_, ext_tl ?_, by rw [h]; simp⟩
  · rw [tl_bef, h, h1]
  · rw [tl_aft, h, h2]
theorem mem_two {x : Str} (h : 44 ∈ tl x) : tl x = tl (bef x) ++ 44 :: tl (aft x) := by
  rw [tl_bef, tl_aft]
  have e := List.takeWhile_append_dropWhile (p := (· != 44)) (l := tl x)
  cases d : (tl x).dropWhile (· != 44) with
  | nil =>
    rw [d, List.append_nil] at e
    rw [← e] at h
    have := (List.all_eq_true.mp (List.all_takeWhile (p := (· != 44)) (l := tl x))) 44 h
    exact absurd this (by decide)
  | cons a r =>
    have ha := List.head?_dropWhile_not (p := (· != 44)) (l := tl x)
    rw [d] at ha
    have ha : a = 44 := by simpa using ha
    rw [d, ha] at e
    exact e.symm
theorem val_no {y : Str} (h : 44 ∈ tl y) : valS y = none := by
  unfold valS
  refine if_neg fun o => ?_
  have m : 44 ∈ figs y := by
    unfold figs
    split
    · rename_i sg
      cases e : tl y with
      | nil => rw [e] at h; exact nomatch h
      | cons a r =>
        rw [e] at h sg
        have sg : a = 45 := by simpa using sg
        rcases List.mem_cons.mp h with z | z
        · rw [sg] at z; exact absurd z (by decide)
        · exact z
    · exact h
  have := o.2.2.1 44 m
  omega
theorem val_empty {x : Str} (h : tl x = []) : valS x = none := by
  unfold valS
  refine if_neg fun o => ?_
  have := o.1
  unfold figs at this
  rw [h] at this
  exact absurd this (by decide)
/-- what a partition at a comma tells -/
theorem part_comma (x : Str) : Txt.partition x ⟨#[44]⟩ = if 44 ∈ tl x then (bef x, ⟨#[44]⟩, aft x) else (x, Str.empty, Str.empty) := by
  rcases partition_whole x ⟨#[44]⟩ with ⟨h1, h2⟩ | ⟨i, h1, h2, h3⟩
  · rw [if_neg fun z => ?_]
    · exact h1
    · obtain ⟨i, hi⟩ := (mem_iff_at x 44).mp z
      exact h2 i hi
  · have hi : (tl x)[i]? = some 44 := (StrLaws.subAt_one x 44 i).mp h2
    have e : tl x = (tl x).take i ++ 44 :: (tl x).drop (i + 1) := by
      have hl : i < (tl x).length := by
        by_cases y : i < (tl x).length
        · exact y
        · rw [List.getElem?_eq_none (by omega)] at hi; exact nomatch hi
      have : (tl x)[i] = 44 := by rw [List.getElem?_eq_getElem hl] at hi; injection hi
      rw [← this, ← List.drop_eq_getElem_cons hl, List.take_append_drop]
    have f : 44 ∉ (tl x).take i := fun z => by
      obtain ⟨k, hk, e⟩ := List.getElem_of_mem z
      rw [List.length_take] at hk
      refine h3 k (by omega) ((StrLaws.subAt_one x 44 k).mpr ?_)
      rw [List.getElem_take] at e
      rw [show x.cps.toList[k]? = (tl x)[k]? from rfl, List.getElem?_eq_getElem (by omega), e]
    have e1 : tl (Builtin.Str.strSub x 0 i) = (tl x).take i := by
      show (Builtin.Str.strSub x 0 i).cps.toList = _
      rw [StrLaws.strSub_toList, List.drop_zero, Nat.sub_zero]
    have e2 : tl (Builtin.Str.strSub x (i + 1) x.length) = (tl x).drop (i + 1) := by
      show (Builtin.Str.strSub x (i + 1) x.length).cps.toList = _
      rw [StrLaws.strSub_toList]
      refine List.take_of_length_le ?_
      rw [List.length_drop, len_tl]; exact Nat.le_refl _
    obtain ⟨b1, b2, b3⟩ := two_of (x := x) (p := Builtin.Str.strSub x 0 i) (q := Builtin.Str.strSub x (i + 1) x.length) (by rw [e1, e2]; exact e) (by rw [e1]; exact f)
    rw [if_pos b3, b1, b2]
    exact h1
theorem comma : Str.ofString "," = ⟨#[44]⟩ := by decide +kernel
theorem blank : Str.ofString " " = ⟨#[32]⟩ := by decide +kernel
/-- what a split at commas tells: two parts, or no point -/
theorem split_comma (x : Str) : (∃ p q, Txt.split x ⟨#[44]⟩ = [p, q] ∧ p = bef x ∧ q = aft x ∧ ptS x = (valS p).bind fun a => (valS q).map fun b => (a, b)) ∨ (Txt.split x ⟨#[44]⟩).length ≠ 2 ∧ ptS x = none := by
  have hj := StrLaws.join_split x ⟨#[44]⟩
  have hf := StrLaws.split_free x 44
  cases e : Txt.split x ⟨#[44]⟩ with
  | nil =>
    refine .inr ⟨by simp, if_neg fun z => ?_⟩
    rw [e] at hj
    rw [← hj] at z
    exact nomatch (show 44 ∈ ([] : List Nat) from z)
  | cons p r =>
    rw [e] at hj hf
    have fp : 44 ∉ tl p := hf p (by simp)
    cases r with
    | nil =>
      refine .inr ⟨by simp, if_neg fun z => ?_⟩
      have hj : p = x := hj
      rw [hj] at fp
      exact fp z
    | cons q r =>
      have tx : tl x = tl p ++ 44 :: tl (Str.join ⟨#[44]⟩ (q :: r)) := by
        have hj : p ++ ⟨#[44]⟩ ++ Str.join ⟨#[44]⟩ (q :: r) = x := hj
        rw [← hj, tl_app, tl_app, List.append_assoc]; rfl
      obtain ⟨b1, b2, b3⟩ := two_of tx fp
      have ex : ptS x = (valS p).bind fun a => (valS (Str.join ⟨#[44]⟩ (q :: r))).map fun b => (a, b) := by
        unfold ptS
        rw [if_pos b3, b1, b2]
      cases r with
      | nil => exact .inl ⟨p, q, rfl, b1.symm, b2.symm, ex⟩
      | cons s t =>
        refine .inr ⟨by simp, ?_⟩
        rw [ex, val_no (y := Str.join ⟨#[44]⟩ (q :: s :: t)) ?_]
        · cases valS p <;> rfl
        · show 44 ∈ tl (q ++ ⟨#[44]⟩ ++ Str.join ⟨#[44]⟩ (s :: t))
          rw [tl_app, tl_app]
          exact List.mem_append_left _ (List.mem_append_right _ (List.mem_singleton.mpr rfl))
theorem pt_back {x : Str} {a b : Int} (h : ptS x = some (a, b)) : Str.ofString (toString a) ++ ⟨#[44]⟩ ++ Str.ofString (toString b) = x := by
  unfold ptS at h
  split at h
  · rename_i m
    cases ha : valS (bef x) with
    | none => rw [ha] at h; exact nomatch h
    | some a' =>
      cases hb : valS (aft x) with
      | none => rw [ha, hb] at h; exact nomatch h
      | some b' =>
        rw [ha, hb] at h
        have h : some (a', b') = some (a, b) := h
        injection h with h
        injection h with h1 h2
        subst h1 h2
        rw [show_back ha, show_back hb]
        apply ext_tl
        rw [tl_app, tl_app, List.append_assoc]
        exact (mem_two m).symm
  · exact nomatch h
theorem sub_ok {x y : Str} (h : ∀ c ∈ tl y, c ∈ tl x) (ok : PyData.strOk x = true) : PyData.strOk y = true := by
  unfold PyData.strOk at *
  rw [Array.all_eq_true'] at *
  exact fun c hc => ok c (Array.mem_toList_iff.mp (h c (Array.mem_toList_iff.mpr hc)))
theorem bef_ok {x : Str} {n : Nat} (h : x.length ≤ n ∧ PyData.strOk x = true) : (bef x).length ≤ n ∧ PyData.strOk (bef x) = true := by
  refine ⟨?_, sub_ok (fun c hc => ?_) h.2⟩
  · have := h.1
    rw [len_tl, tl_bef]
    rw [len_tl] at this
    exact Nat.le_trans (List.takeWhile_sublist _).length_le this
  · rw [tl_bef] at hc
    exact (List.takeWhile_sublist _).subset hc
theorem aft_ok {x : Str} {n : Nat} (h : x.length ≤ n ∧ PyData.strOk x = true) : (aft x).length ≤ n ∧ PyData.strOk (aft x) = true := by
  have sl : List.Sublist (((tl x).dropWhile (· != 44)).drop 1) (tl x) := (List.drop_sublist _ _).trans (List.dropWhile_sublist _)
  refine ⟨?_, sub_ok (fun c hc => ?_) h.2⟩
  · have := h.1
    rw [len_tl, tl_aft]
    rw [len_tl] at this
    exact Nat.le_trans sl.length_le this
  · rw [tl_aft] at hc
    exact sl.subset hc
theorem val_60 {x : Str} {n : Int} (h : valS x = some n) : n.natAbs < 10 ^ 60 := by
  unfold valS at h
  split at h
  · rename_i ok
    have := dv_lt _ ok.2.2.1
    have h60 : (10 : Nat) ^ (figs x).length ≤ 10 ^ 60 := Nat.pow_le_pow_right (by decide) ok.2.1
    injection h with h
    split at h <;> omega
  · exact nomatch h
theorem pt_60 {x : Str} {p : Int × Int} (h : ptS x = some p) : p.1.natAbs < 10 ^ 60 ∧ p.2.natAbs < 10 ^ 60 := by
  unfold ptS at h
  split at h
  · cases ha : valS (bef x) with
    | none => rw [ha] at h; exact nomatch h
    | some a =>
      cases hb : valS (aft x) with
      | none => rw [ha, hb] at h; exact nomatch h
      | some b =>
        rw [ha, hb] at h
        have h : some (a, b) = some p := h
        injection h with h
        rw [← h]
        exact ⟨val_60 ha, val_60 hb⟩
  · exact nomatch h
def spD : Dat → Option (Int × Int)
  | .str x => ptS x
  | _ => none
def optSp : Option (Int × Int) → Dat
  | none => .non
  | some p => .tup [.int p.1, .int p.2]
end Txp
/-! rows of points as texts -/
namespace Txp
open DL PySem PySem.Spec PyProof.Rows L2 TL
theorem join_sub (s : Str) : ∀ (l : List Str) (p : Str), p ∈ l → List.Sublist (tl p) (tl (Str.join s l))
  | [], p, h => nomatch h
  | [x], p, h => by rw [List.mem_singleton.mp h]; exact List.Sublist.refl _
  | x :: y :: r, p, h => by
    show List.Sublist (tl p) (tl (x ++ s ++ Str.join s (y :: r)))
    rw [tl_app, tl_app]
    rcases List.mem_cons.mp h with rfl | h
    · rw [List.append_assoc]; exact List.sublist_append_left _ _
    · exact (join_sub s (y :: r) p h).trans (List.sublist_append_right _ _)
theorem word_ok {x s p : Str} {n : Nat} (h : x.length ≤ n ∧ PyData.strOk x = true) (hp : p ∈ Txt.split x s) : p.length ≤ n ∧ PyData.strOk p = true := by
  have sl := join_sub s _ p hp
  rw [StrLaws.join_split] at sl
  refine ⟨?_, sub_ok (fun c hc => sl.subset hc) h.2⟩
  have := h.1
  rw [len_tl] at this ⊢
  exact Nat.le_trans sl.length_le this
def allP : List Str → Option (List Pt)
  | [] => some []
  | w :: r => (ptS w).bind fun p => (allP r).map fun ps => p :: ps
theorem allP_snoc : ∀ (l : List Str) (w : Str), allP (l ++ [w]) = (allP l).bind fun ps => (ptS w).map fun p => ps ++ [p]
  | [], w => by
    show (ptS w).bind (fun p => some [p]) = (ptS w).map fun p => [] ++ [p]
    cases ptS w <;> rfl
  | v :: l, w => by
    show (ptS v).bind (fun p => (allP (l ++ [w])).map fun ps => p :: ps) = ((ptS v).bind fun p => (allP l).map fun ps => p :: ps).bind fun ps => (ptS w).map fun p => ps ++ [p]
    rw [allP_snoc l w]
    cases ptS v with
    | none => rfl
    | some p =>
      cases allP l with
      | none => rfl
      | some ps => cases ptS w <;> rfl
theorem allP_step {l : List Str} {i : Nat} {w : Str} {ps : List Pt} {p : Pt} (h : allP (l.take i) = some ps) (hw : l[i]? = some w) (hp : ptS w = some p) : allP (l.take (i + 1)) = some (ps ++ [p]) := by
  rw [List.take_add_one, hw]
  show allP (l.take i ++ [w]) = _
  rw [allP_snoc, h, hp]; rfl
theorem allP_bad : ∀ {l : List Str} {w : Str}, w ∈ l → ptS w = none → allP l = none
  | v :: l, w, h, hw => by
    show (ptS v).bind (fun p => (allP l).map fun ps => p :: ps) = none
    rcases List.mem_cons.mp h with rfl | h
    · rw [hw]; rfl
    · rw [allP_bad h hw]; cases ptS v <;> rfl
theorem allP_len : ∀ {l : List Str} {ps : List Pt}, allP l = some ps → ps.length = l.length
  | [], ps, h => by injection h with h; rw [← h]; rfl
  | v :: l, ps, h => by
    have h : (ptS v).bind (fun p => (allP l).map fun ps => p :: ps) = some ps := h
    cases hv : ptS v with
    | none => rw [hv] at h; exact nomatch h
    | some p =>
      cases hl : allP l with
      | none => rw [hv, hl] at h; exact nomatch h
      | some qs =>
        rw [hv, hl] at h
        have h : some (p :: qs) = some ps := h
        injection h with h
        rw [← h, List.length_cons, List.length_cons, allP_len hl]
/-- the points that a text writes, with single blanks between -/
def psS (x : Str) : Option (List Pt) := if (Txt.split x (Str.ofString " ")).length ≤ 60 then allP (Txt.split x (Str.ofString " ")) else none
def psD : Dat → Option (List Pt)
  | .str x => psS x
  | _ => none
def optPs : Option (List Pt) → Rv
  | none => .v .non
  | some ps => .n (ps.map pt)
theorem asc_join {n : Nat} : ∀ (l : List Str), (∀ x ∈ l, Asc n x) → Asc ((n + 1) * l.length) (Txt.join (Str.ofString " ") l) := by
  have go : ∀ (l : List Str), (∀ x ∈ l, Asc n x) → Asc ((n + 1) * l.length) (Str.join (Str.ofString " ") l) := by
    intro l
    induction l with
    | nil => intro _; exact ⟨Nat.zero_le _, fun c h => nomatch (show c ∈ ([] : List Nat) from h)⟩
    | cons x r ih =>
      intro h
      cases r with
      | nil => exact (h x (by simp)).mono (by rw [List.length_singleton]; omega)
      | cons y r =>
        have := ((h x (by simp)).app ⟨by decide +kernel, by decide +kernel⟩ (y := Str.ofString " ") (n := 1)).app (ih fun z hz => h z (by simp [hz]))
        refine Asc.mono this ?_
        rw [List.length_cons (a := x), Nat.mul_add, Nat.mul_one]
        omega
  intro l h
  show Asc _ (Builtin.Str.glued (Str.ofString " ") l)
  rw [StrLaws.glued_eq_join]
  exact go l h
theorem asc_rep1 {n m : Nat} {x y z : Str} (hx : Asc n x) (hz : Asc m z) : Asc (n + m) (rep1 x y z) := by
  refine ⟨Nat.le_trans (rep1_len x y z) (Nat.add_le_add hx.len hz.len), ?_⟩
  unfold rep1
  split
  · intro c hc
    rw [tl_app, tl_app] at hc
    have sb : ∀ i j, ∀ c ∈ tl (Builtin.Str.strSub x i j), c < 128 := fun i j c hc => by
      have hc : c ∈ (Builtin.Str.strSub x i j).cps.toList := hc
      rw [StrLaws.strSub_toList] at hc
      exact hx.lt c (List.mem_of_mem_drop (List.mem_of_mem_take hc))
    rcases List.mem_append.mp hc with hc | hc
    · rcases List.mem_append.mp hc with hc | hc
      · exact sb _ _ c hc
      · exact hz.lt c hc
    · exact sb _ _ c hc
  · exact hx.lt
end Txp
namespace DL
open PySem PySem.Spec PyProof.Rows L2

/-! ### the law's own end -/
def spLaw (K : PySem.W.Frag) : Sp := fun vs H Q _ => ∃ (a : Addr) (ns : List Int), vs = [.ref a] ∧ SqL K H a (ns.map V.int) ∧ Scr ns ∧ ∀ H', Q (.bl true) H'
theorem law_fn {P : Program} {w : World} {K : PySem.W.Frag} {mg : MG} {base : Heap} {k : Nat} {f : Addr} {fd : FuncData} {S : Fsp} (F : FnOk P w K mg base (L2.CX P w) k f fd ["script"] (spOf K mg [false] S)) (hS : ∀ (ns : List Int) (κ : Rv → Prop) (ε : Str → Prop), Scr ns → κ (.v (.bl true)) → S [.lst (ns.map Dat.int)] κ ε) :
    FnOk P w K mg base (L2.CX P w) k f fd ["script"] (spLaw K) := by
  refine F.imp fun vs H Q E h => ?_
  obtain ⟨a, ns, rfl, hs, hn, q⟩ := h
  refine ⟨fun _ => none, [.lst (ns.map Dat.int)], (fun _ _ e => nomatch e), ⟨_, [], _, [], rfl, rfl, .inr ⟨a, _, _, rfl, rfl, hs, RdL.ints ns⟩, rfl, rfl⟩, fun r => r = .v (.bl true), fun _ => False, hS ns _ _ hn rfl, fun v H' G' r x hr ok e => ?_, fun _ _ _ _ _ _ z => False.elim z⟩
  subst e
  rw [rvB hr]
  exact q H'
theorem bits_bt {z : Int} (h : Builtin.Int.intBits z ≤ 1048576) : Bt 1048577 z := by
  rw [Bt.def]
  unfold Builtin.Int.intBits at h
  split at h
  · rename_i e
    simp only [beq_iff_eq] at e
    rw [e]
    exact Nat.pow_pos (by decide)
  · rename_i e
    have hz : z.natAbs ≠ 0 := fun q => e (by simp only [beq_iff_eq]; omega)
    exact (Nat.log2_lt hz).mp (by omega)
theorem walk_dl {l : PySem.W.OpenLaw} {q : Program} {loose : List Str} {XP : (Str → Option Value) → Heap → Prop} {YP : World → Heap → Prop} {d : DefRec} {K : Params → PySem.W.Frag} {k : Nat} (hr : Room k callerA) (hn : l.most = some 63) (hdf : d.params.defaults = [])
    (hY : ∀ (w : World) (h : Heap), YP w h → (K w.params).In h)
    (F : ∀ (w : World) (mg : Str → Option Value) (fa : Addr) (h : Heap), (K w.params).In h → h.Ns mainGlobals mg → mg d.name = some (.ref fa) →
      ∃ fd : FuncData, (∀ (s : Shared) (u : Value), BindsTo s fd ⟨[u], []⟩ [("script", u)]) ∧ ∀ base : Heap, (K w.params).In base → base.Ns mainGlobals mg → FnOk l.prog w (K w.params) mg base (L2.CX l.prog w) k fa fd ["script"] (spLaw (K w.params))) :
    PySem.W.WalkO q loose XP YP l.row.toRowW d [] (fun f vs => PySem.call f vs) :=
  L2.walk_ofB (n := 63) (k := k) (x := "script") (CX := fun w => L2.CX l.prog w) (sp := fun w => spLaw (K w.params)) hn (by decide) hdf hr hY F (fun w H a ns hl hb _ hS => ⟨a, ns, rfl, hS, ⟨hl, fun z hz => bits_bt (hb z hz)⟩, fun _ => rfl⟩) fun _ _ _ _ _ z => by
    obtain ⟨_, _, _, _, _, _, _, _, _, _, _, _, e⟩ := z
    exact e
end DL
namespace Py
open PySem PySem.Spec PyProof.Rows L2 DL
def topS (i : Nat) : Stmt := PySem.Challenge.pw_stakefield_k73_whole_rows_of_points.main.body.getD i (.Pass ⟨0, 0, 0, 0⟩)
structure Bs (mg : MG) : Prop where
  bool_ : mg "bool" = none
  int_ : mg "int" = none
  isinstance_ : mg "isinstance" = none
  len_ : mg "len" = none
  list_ : mg "list" = none
  max_ : mg "max" = none
  min_ : mg "min" = none
  range_ : mg "range" = none
  str_ : mg "str" = none
  tuple_ : mg "tuple" = none
structure Ks (mg : MG) : Prop where
  MOST_FIGURES : ∃ t, mg "MOST_FIGURES" = some (.int 60 t)
  MOST_POINTS : ∃ t, mg "MOST_POINTS" = some (.int 60 t)
def exM : List (Str × Str × Bool) := [("NoText", "StakeError", true)]
def exI : List (Str × Str × Bool) := [("NoText", "NoName", false), ("NoText", "NoRow", false), ("NoText", "NoText", true), ("NoText", "ValueError", true)]
structure Es (K : PySem.W.Frag) (mg : MG) : Prop where
  r_NoText : Xr K mg "NoText"
  c_StakeError : ∃ C, mg "StakeError" = some (.ref C)
  xs : Xs K mg exM exI
/-! ### read_number -/
abbrev s_read_number : Stmt := topS 8
theorem sc_read_number : FnScope ["text", "figures", "sign"] ["text"] (defScope s_read_number) := ⟨rfl, rfl, rfl, by decide +kernel, rfl, by decide +kernel, by decide +kernel⟩
abbrev ms_read_number : List Bool := [false]
def b_read_number_1 : DS :=
  sIf (tVal (dInSg true (dVar 2) (dC (.str "0123456789"))))
  (sRaise "NoText")
  (sNil)
def t_read_number_6 : DS :=
  sRet (dB kIntS (aCons (dVar 0) (aNil)))
def t_read_number_5 : DS :=
  sSeq (sIf (tAndD (tVal (dEq (dIxS (dVar 1) (dC (.int 0))) (dC (.str "0")))) (tVal (dNe (dVar 0) (dC (.str "0")))))
  (sRaise "NoText")
  (sNil))
  t_read_number_6
def t_read_number_4 : DS :=
  sSeq (sFrz 1 (sFor (iSgn (dVar 1)) (gN 2) b_read_number_1))
  t_read_number_5
def t_read_number_3 : DS :=
  sSeq (sIf (tOrD (tVal (dEq (dVar 1) (dC (.str "")))) (tVal (dGt (dB kLenA (aCons (dVar 1) (aNil))) (dC (.int 60)))))
  (sRaise "NoText")
  (sNil))
  t_read_number_4
def t_read_number_2 : DS :=
  sSeq (sIf (tVal (dStartswith (dVar 0) (dC (.str "-"))))
  (sAsg (dCutSt (dVar 0) (oSome (dC (.int 1))) (oNone)) (gN 1))
  (sNil))
  t_read_number_3
def t_read_number_1 : DS :=
  sSeq (sAsg (dVar 0) (gN 1))
  t_read_number_2
def d_read_number : DS :=
  sSeq (sIf (tNotD (tVal (dIsi .str (dVar 0))))
  (sRaise "NoText")
  (sNil))
  t_read_number_1
theorem ok_read_number {P : Program} {w : World} {K : PySem.W.Frag} {mg : MG} {base : Heap} {f : Addr} {fd : FuncData}  {S : Fsp} (F : Fun K "read_number" "read_number" s_read_number f fd) (hm : mg "read_number" = some (.ref f)) (bb : Binds K fd ["text"] []) (B : Bs mg) (G : Ks mg) (EX : Es K mg) 
    (sem : ∀ ds κ ε, S ds κ ε → d_read_number  (endsOf κ ε) (entry ms_read_number 3 ds)) : Cal P w K mg base 1 "read_number" ["text"] ms_read_number S :=
  ⟨f, fd, fn_dl (k := 0) F sc_read_number rfl (fun cdv A outer s H E C => mss_cons (ms_if (mt_not (mt_val (me_isi .str (by decide +kernel) B.isinstance_ B.str_ (me_var 0))))
  (mss_one (ms_raise C.hc C.tk EX.r_NoText))
  (mss_nil))
  (mss_cons (ms_set 1 C.nd (me_var 0))
  (mss_cons (ms_if (mt_val (me_startswith (me_var 0) (me_str)))
  (mss_one (ms_set 1 C.nd (me_cutSt (me_var 0) (mo_some (me_int)) (mo_none))))
  (mss_nil))
  (mss_cons (ms_if (MW.mt (mw_or (mt_eq C.hr.units (me_var 1) (me_str)) (mw_or1 (mt_gt (me_lenA B.len_ (ma_cons (me_var 1) (ma_nil))) (me_glob rfl G.MOST_FIGURES.choose_spec)))))
  (mss_one (ms_raise C.hc C.tk EX.r_NoText))
  (mss_nil))
  (mss_cons (ms_frz 1 (ms_for C (mi_sgn (me_var 1)) (mg_name 2 C.nd)
  (mss_one (ms_if (mt_notinSg (me_var 2) (me_str))
  (mss_one (ms_raise C.hc C.tk EX.r_NoText))
  (mss_nil)))))
  (mss_cons (ms_if (MW.mt (mw_and (mt_eq C.hr.units (me_ixS (me_var 1) (me_int)) (me_str)) (mw_and1 (mt_ne C.hr.units (me_var 0) (me_str)))))
  (mss_one (ms_raise C.hc C.tk EX.r_NoText))
  (mss_nil))
  (mss_one (ms_ret (me_intS B.int_ (ma_cons (me_var 0) (ma_nil))))))))))) sem, hm, F.kp, bb⟩
/-! ### read_point -/
abbrev s_read_point : Stmt := topS 9
theorem sc_read_point : FnScope ["text", "parts"] ["text"] (defScope s_read_point) := ⟨rfl, rfl, rfl, by decide +kernel, rfl, by decide +kernel, by decide +kernel⟩
abbrev ms_read_point : List Bool := [false]
def t_read_point_3 (S_read_number : Fsp) : DS :=
  sRet (dTup (aCons (dCall ms_read_number S_read_number (aCons (dIx (dVar 1) (dC (.int 0))) (aNil))) (aCons (dCall ms_read_number S_read_number (aCons (dIx (dVar 1) (dC (.int 1))) (aNil))) (aNil))))
def t_read_point_2 (S_read_number : Fsp) : DS :=
  sSeq (sIf (tVal (dNe (dB kLen (aCons (dVar 1) (aNil))) (dC (.int 2))))
  (sRaise "NoText")
  (sNil))
  (t_read_point_3 S_read_number)
def t_read_point_1 (S_read_number : Fsp) : DS :=
  sSeq (sAsg (dSplit (dVar 0) (dC (.str ","))) (gN 1))
  (t_read_point_2 S_read_number)
def d_read_point (S_read_number : Fsp) : DS :=
  sSeq (sIf (tNotD (tVal (dIsi .str (dVar 0))))
  (sRaise "NoText")
  (sNil))
  (t_read_point_1 S_read_number)
theorem ok_read_point {P : Program} {w : World} {K : PySem.W.Frag} {mg : MG} {base : Heap} {f : Addr} {fd : FuncData} {S_read_number : Fsp} {S : Fsp} (F : Fun K "read_point" "read_point" s_read_point f fd) (hm : mg "read_point" = some (.ref f)) (bb : Binds K fd ["text"] []) (B : Bs mg) (G : Ks mg) (EX : Es K mg) (F_read_number : Cal P w K mg base 1 "read_number" ["text"] ms_read_number S_read_number)
    (sem : ∀ ds κ ε, S ds κ ε → d_read_point S_read_number (endsOf κ ε) (entry ms_read_point 2 ds)) : Cal P w K mg base 2 "read_point" ["text"] ms_read_point S :=
  ⟨f, fd, fn_dl (k := 1) F sc_read_point rfl (fun cdv A outer s H E C => mss_cons (ms_if (mt_not (mt_val (me_isi .str (by decide +kernel) B.isinstance_ B.str_ (me_var 0))))
  (mss_one (ms_raise C.hc C.tk EX.r_NoText))
  (mss_nil))
  (mss_cons (ms_set 1 C.nd (me_split (me_var 0) (me_str)))
  (mss_cons (ms_if (mt_ne C.hr.units (me_len B.len_ (ma_cons (me_var 1) (ma_nil))) (me_int))
  (mss_one (ms_raise C.hc C.tk EX.r_NoText))
  (mss_nil))
  (mss_one (ms_ret (me_tup (ma_cons (me_callC C F_read_number (ma_cons (me_ix (me_var 1) (me_int)) (ma_nil))) (ma_cons (me_callC C F_read_number (ma_cons (me_ix (me_var 1) (me_int)) (ma_nil))) (ma_nil))))))))) sem, hm, F.kp, bb⟩
/-! ### read_points -/
abbrev s_read_points : Stmt := topS 10
theorem sc_read_points : FnScope ["text", "words", "word"] ["text"] (defScope s_read_points) := ⟨rfl, rfl, rfl, by decide +kernel, rfl, by decide +kernel, by decide +kernel⟩
abbrev ms_read_points : List Bool := [false]
def b_read_points_1 (S_read_point : Fsp) : DE :=
  dCall ms_read_point S_read_point (aCons (dVar 2) (aNil))
def t_read_points_3 (S_read_point : Fsp) : DS :=
  sRet (dLcX (iLst true (dVar 1)) (gN 2) tYesD (b_read_points_1 S_read_point) [2])
def t_read_points_2 (S_read_point : Fsp) : DS :=
  sSeq (sIf (tVal (dGt (dB kLen (aCons (dVar 1) (aNil))) (dC (.int 60))))
  (sRaise "NoText")
  (sNil))
  (t_read_points_3 S_read_point)
def t_read_points_1 (S_read_point : Fsp) : DS :=
  sSeq (sAsg (dSplit (dVar 0) (dC (.str " "))) (gN 1))
  (t_read_points_2 S_read_point)
def d_read_points (S_read_point : Fsp) : DS :=
  sSeq (sIf (tNotD (tVal (dIsi .str (dVar 0))))
  (sRaise "NoText")
  (sNil))
  (t_read_points_1 S_read_point)
theorem ok_read_points {P : Program} {w : World} {K : PySem.W.Frag} {mg : MG} {base : Heap} {f : Addr} {fd : FuncData} {S_read_point : Fsp} {S : Fsp} (F : Fun K "read_points" "read_points" s_read_points f fd) (hm : mg "read_points" = some (.ref f)) (bb : Binds K fd ["text"] []) (B : Bs mg) (G : Ks mg) (EX : Es K mg) (F_read_point : Cal P w K mg base 2 "read_point" ["text"] ms_read_point S_read_point)
    (sem : ∀ ds κ ε, S ds κ ε → d_read_points S_read_point (endsOf κ ε) (entry ms_read_points 3 ds)) : Cal P w K mg base 3 "read_points" ["text"] ms_read_points S :=
  ⟨f, fd, fn_dl (k := 2) F sc_read_points rfl (fun cdv A outer s H E C => mss_cons (ms_if (mt_not (mt_val (me_isi .str (by decide +kernel) B.isinstance_ B.str_ (me_var 0))))
  (mss_one (ms_raise C.hc C.tk EX.r_NoText))
  (mss_nil))
  (mss_cons (ms_set 1 C.nd (me_split (me_var 0) (me_str)))
  (mss_cons (ms_if (mt_gt (me_len B.len_ (ma_cons (me_var 1) (ma_nil))) (me_glob rfl G.MOST_POINTS.choose_spec))
  (mss_one (ms_raise C.hc C.tk EX.r_NoText))
  (mss_nil))
  (mss_one (ms_ret (me_lcX (own := [("word", 2)]) rfl rfl C (mi_list (me_var 1)) (blkOk_by (N := ["text", "words", "word"]) (sc := defScope s_read_points) (by decide +kernel)) (fun _ => mg_name 2 (C).blk.nd) (fun _ => mts_nil) (fun f V pn xe tk po => me_callC ((C).blk.tr tk po) F_read_point (ma_cons (me_var 2) (ma_nil))))))))) sem, hm, F.kp, bb⟩
/-! ### show_number -/
abbrev s_show_number : Stmt := topS 11
theorem sc_show_number : FnScope ["number"] ["number"] (defScope s_show_number) := ⟨rfl, rfl, rfl, by decide +kernel, rfl, by decide +kernel, by decide +kernel⟩
abbrev ms_show_number : List Bool := [false]
def d_show_number : DS :=
  sRet (dB kStr (aCons (dVar 0) (aNil)))
theorem ok_show_number {P : Program} {w : World} {K : PySem.W.Frag} {mg : MG} {base : Heap} {f : Addr} {fd : FuncData}  {S : Fsp} (F : Fun K "show_number" "show_number" s_show_number f fd) (hm : mg "show_number" = some (.ref f)) (bb : Binds K fd ["number"] []) (B : Bs mg) (G : Ks mg) (EX : Es K mg) 
    (sem : ∀ ds κ ε, S ds κ ε → d_show_number  (endsOf κ ε) (entry ms_show_number 1 ds)) : Cal P w K mg base 1 "show_number" ["number"] ms_show_number S :=
  ⟨f, fd, fn_dl (k := 0) F sc_show_number rfl (fun cdv A outer s H E C => mss_one (ms_ret (me_toStr B.str_ (ma_cons (me_var 0) (ma_nil))))) sem, hm, F.kp, bb⟩
/-! ### show_point -/
abbrev s_show_point : Stmt := topS 12
theorem sc_show_point : FnScope ["point"] ["point"] (defScope s_show_point) := ⟨rfl, rfl, rfl, by decide +kernel, rfl, by decide +kernel, by decide +kernel⟩
abbrev ms_show_point : List Bool := [false]
def d_show_point (S_show_number : Fsp) : DS :=
  sRet (dPls (dPls (dCall ms_show_number S_show_number (aCons (dIx (dVar 0) (dC (.int 0))) (aNil))) (dC (.str ","))) (dCall ms_show_number S_show_number (aCons (dIx (dVar 0) (dC (.int 1))) (aNil))))
theorem ok_show_point {P : Program} {w : World} {K : PySem.W.Frag} {mg : MG} {base : Heap} {f : Addr} {fd : FuncData} {S_show_number : Fsp} {S : Fsp} (F : Fun K "show_point" "show_point" s_show_point f fd) (hm : mg "show_point" = some (.ref f)) (bb : Binds K fd ["point"] []) (B : Bs mg) (G : Ks mg) (EX : Es K mg) (F_show_number : Cal P w K mg base 1 "show_number" ["number"] ms_show_number S_show_number)
    (sem : ∀ ds κ ε, S ds κ ε → d_show_point S_show_number (endsOf κ ε) (entry ms_show_point 1 ds)) : Cal P w K mg base 2 "show_point" ["point"] ms_show_point S :=
  ⟨f, fd, fn_dl (k := 1) F sc_show_point rfl (fun cdv A outer s H E C => mss_one (ms_ret (me_pls (me_pls (me_callC C F_show_number (ma_cons (me_ix (me_var 0) (me_int)) (ma_nil))) (me_str)) (me_callC C F_show_number (ma_cons (me_ix (me_var 0) (me_int)) (ma_nil)))))) sem, hm, F.kp, bb⟩
/-! ### show_points -/
abbrev s_show_points : Stmt := topS 13
theorem sc_show_points : FnScope ["points", "point"] ["points"] (defScope s_show_points) := ⟨rfl, rfl, rfl, by decide +kernel, rfl, by decide +kernel, by decide +kernel⟩
abbrev ms_show_points : List Bool := [false]
def b_show_points_1 (S_show_point : Fsp) : DE :=
  dCall ms_show_point S_show_point (aCons (dVar 1) (aNil))
def d_show_points (S_show_point : Fsp) : DS :=
  sRet (dJoin (dC (.str " ")) (dLc (iLst true (dVar 0)) (gN 1) tYesD (b_show_points_1 S_show_point) [1]))
theorem ok_show_points {P : Program} {w : World} {K : PySem.W.Frag} {mg : MG} {base : Heap} {f : Addr} {fd : FuncData} {S_show_point : Fsp} {S : Fsp} (F : Fun K "show_points" "show_points" s_show_points f fd) (hm : mg "show_points" = some (.ref f)) (bb : Binds K fd ["points"] []) (B : Bs mg) (G : Ks mg) (EX : Es K mg) (F_show_point : Cal P w K mg base 2 "show_point" ["point"] ms_show_point S_show_point)
    (sem : ∀ ds κ ε, S ds κ ε → d_show_points S_show_point (endsOf κ ε) (entry ms_show_points 2 ds)) : Cal P w K mg base 3 "show_points" ["points"] ms_show_points S :=
  ⟨f, fd, fn_dl (k := 2) F sc_show_points rfl (fun cdv A outer s H E C => mss_one (ms_ret (me_join (me_str) (me_lc (own := [("point", 1)]) C (mi_list (me_var 0)) (blkOk_by (N := ["points", "point"]) (sc := defScope s_show_points) (by decide +kernel)) (fun _ => mg_name 1 (C).blk.nd) (fun _ => mts_nil) (fun _ => me_callC (C).blk F_show_point (ma_cons (me_var 1) (ma_nil))))))) sem, hm, F.kp, bb⟩
/-! ### _law_cell -/
abbrev s_L_cell : Stmt := topS 15
theorem sc_L_cell : FnScope ["script", "k"] ["script", "k"] (defScope s_L_cell) := ⟨rfl, rfl, rfl, by decide +kernel, rfl, by decide +kernel, by decide +kernel⟩
abbrev ms_L_cell : List Bool := [false, false]
def t_L_cell_1 : DS :=
  sRet (dAdd (dAdd (dMul (dMul (dC (.int 7)) (dVar 1)) (dVar 1)) (dMul (dC (.int 3)) (dVar 1))) (dC (.int 1)))
def d_L_cell : DS :=
  sSeq (sIf (tVal (dLt (dVar 1) (dB kLen (aCons (dVar 0) (aNil)))))
  (sRet (dIx (dVar 0) (dVar 1)))
  (sNil))
  t_L_cell_1
theorem ok_L_cell {P : Program} {w : World} {K : PySem.W.Frag} {mg : MG} {base : Heap} {f : Addr} {fd : FuncData}  {S : Fsp} (F : Fun K "_law_cell" "_law_cell" s_L_cell f fd) (hm : mg "_law_cell" = some (.ref f)) (bb : Binds K fd ["script", "k"] []) (B : Bs mg) (G : Ks mg) (EX : Es K mg) 
    (sem : ∀ ds κ ε, S ds κ ε → d_L_cell  (endsOf κ ε) (entry ms_L_cell 2 ds)) : Cal P w K mg base 1 "_law_cell" ["script", "k"] ms_L_cell S :=
  ⟨f, fd, fn_dl (k := 0) F sc_L_cell rfl (fun cdv A outer s H E C => mss_cons (ms_if (mt_lt (me_var 1) (me_len B.len_ (ma_cons (me_var 0) (ma_nil))))
  (mss_one (ms_ret (me_ix (me_var 0) (me_var 1))))
  (mss_nil))
  (mss_one (ms_ret (me_add (me_add (me_mul (me_mul (me_int) (me_var 1)) (me_var 1)) (me_mul (me_int) (me_var 1))) (me_int))))) sem, hm, F.kp, bb⟩
/-! ### _law_sign -/
abbrev s_L_sign : Stmt := topS 16
theorem sc_L_sign : FnScope ["cell", "signs"] ["cell"] (defScope s_L_sign) := ⟨rfl, rfl, rfl, by decide +kernel, rfl, by decide +kernel, by decide +kernel⟩
abbrev ms_L_sign : List Bool := [false]
def t_L_sign_2 : DS :=
  sRet (dIxS (dVar 1) (dModP (dVar 0) (dC (.int 96))))
def t_L_sign_1 : DS :=
  sSeq (sAsg (dPls (dVar 1) (dC (.str "abcdefghijklmnopqrstuvwxyz{|}~\n\t"))) (gN 1))
  t_L_sign_2
def d_L_sign : DS :=
  sSeq (sAsg (dC (.str " !\"#$&'()*+,-./0123456789:;<=>?@ABCDEFGHIJKLMNOPQRSTUVWXYZ[\\]^_`")) (gN 1))
  t_L_sign_1
theorem ok_L_sign {P : Program} {w : World} {K : PySem.W.Frag} {mg : MG} {base : Heap} {f : Addr} {fd : FuncData}  {S : Fsp} (F : Fun K "_law_sign" "_law_sign" s_L_sign f fd) (hm : mg "_law_sign" = some (.ref f)) (bb : Binds K fd ["cell"] []) (B : Bs mg) (G : Ks mg) (EX : Es K mg) 
    (sem : ∀ ds κ ε, S ds κ ε → d_L_sign  (endsOf κ ε) (entry ms_L_sign 2 ds)) : Cal P w K mg base 1 "_law_sign" ["cell"] ms_L_sign S :=
  ⟨f, fd, fn_dl (k := 0) F sc_L_sign rfl (fun cdv A outer s H E C => mss_cons (ms_set 1 C.nd (me_str))
  (mss_cons (ms_set 1 C.nd (me_pls (me_var 1) (me_str)))
  (mss_one (ms_ret (me_ixS (me_var 1) (me_modP (me_var 0) (me_int))))))) sem, hm, F.kp, bb⟩
/-! ### _law_number -/
abbrev s_L_number : Stmt := topS 17
theorem sc_L_number : FnScope ["cell"] ["cell"] (defScope s_L_number) := ⟨rfl, rfl, rfl, by decide +kernel, rfl, by decide +kernel, by decide +kernel⟩
abbrev ms_L_number : List Bool := [false]
def t_L_number_1 : DS :=
  sRet (dAdd (dSub (dModP (dMul (dDivP (dVar 0) (dC (.int 3))) (dAdd (dAdd (dMul (dC (.int 7)) (dPow (dC (.int 10)) (dC (.int 59)))) (dMul (dC (.int 48271)) (dPow (dC (.int 10)) (dC (.int 30))))) (dC (.int 982451653)))) (dSub (dMul (dC (.int 2)) (dPow (dC (.int 10)) (dC (.int 60)))) (dC (.int 1)))) (dPow (dC (.int 10)) (dC (.int 60)))) (dC (.int 1)))
def d_L_number : DS :=
  sSeq (sIf (tVal (dGt (dModP (dVar 0) (dC (.int 3))) (dC (.int 0))))
  (sRet (dSub (dModP (dDivP (dVar 0) (dC (.int 3))) (dC (.int 21))) (dC (.int 10))))
  (sNil))
  t_L_number_1
theorem ok_L_number {P : Program} {w : World} {K : PySem.W.Frag} {mg : MG} {base : Heap} {f : Addr} {fd : FuncData}  {S : Fsp} (F : Fun K "_law_number" "_law_number" s_L_number f fd) (hm : mg "_law_number" = some (.ref f)) (bb : Binds K fd ["cell"] []) (B : Bs mg) (G : Ks mg) (EX : Es K mg) 
    (sem : ∀ ds κ ε, S ds κ ε → d_L_number  (endsOf κ ε) (entry ms_L_number 1 ds)) : Cal P w K mg base 1 "_law_number" ["cell"] ms_L_number S :=
  ⟨f, fd, fn_dl (k := 0) F sc_L_number rfl (fun cdv A outer s H E C => mss_cons (ms_if (mt_gt (me_modP (me_var 0) (me_int)) (me_int))
  (mss_one (ms_ret (me_sub (me_modP (me_divP (me_var 0) (me_int)) (me_int)) (me_int))))
  (mss_nil))
  (mss_one (ms_ret (me_add (me_sub (me_modP (me_mul (me_divP (me_var 0) (me_int)) (me_add (me_add (me_mul (me_int) (me_pow (me_int) (me_int))) (me_mul (me_int) (me_pow (me_int) (me_int)))) (me_int))) (me_sub (me_mul (me_int) (me_pow (me_int) (me_int))) (me_int))) (me_pow (me_int) (me_int))) (me_int))))) sem, hm, F.kp, bb⟩
/-! ### _law_points -/
abbrev s_L_points : Stmt := topS 18
theorem sc_L_points : FnScope ["script", "points", "k", "many"] ["script"] (defScope s_L_points) := ⟨rfl, rfl, rfl, by decide +kernel, rfl, by decide +kernel, by decide +kernel⟩
abbrev ms_L_points : List Bool := [false]
def b_L_points_1 (S_L_number : Fsp) (S_L_cell : Fsp) : DS :=
  sApp 1 (dTup (aCons (dCall ms_L_number S_L_number (aCons (dCall ms_L_cell S_L_cell (aCons (dVar 0) (aCons (dVar 2) (aNil)))) (aNil))) (aCons (dCall ms_L_number S_L_number (aCons (dCall ms_L_cell S_L_cell (aCons (dVar 0) (aCons (dAdd (dVar 2) (dC (.int 1))) (aNil)))) (aNil))) (aNil))))
def b_L_points_2 : DE :=
  dIx (dVar 1) (dModP (dVar 2) (dB kLen (aCons (dVar 1) (aNil))))
def t_L_points_4 (S_L_number : Fsp) (S_L_cell : Fsp) : DS :=
  sRetV 1
def t_L_points_3 (S_L_number : Fsp) (S_L_cell : Fsp) : DS :=
  sSeq (sIf (tVal (dLt (dVar 3) (dC (.int 2))))
  (sAsg (dLc (iRng1 (dAdd (dC (.int 60)) (dVar 3))) (gN 2) tYesD b_L_points_2 [2]) (gN 1))
  (sNil))
  (t_L_points_4 S_L_number S_L_cell)
def t_L_points_2 (S_L_number : Fsp) (S_L_cell : Fsp) : DS :=
  sSeq (sAsg (dModP (dCall ms_L_cell S_L_cell (aCons (dVar 0) (aCons (dC (.int 0)) (aNil)))) (dC (.int 12))) (gN 3))
  (t_L_points_3 S_L_number S_L_cell)
def t_L_points_1 (S_L_number : Fsp) (S_L_cell : Fsp) : DS :=
  sSeq (sFor (iRng3 (dC (.int 2)) (dB kMax2 (aCons (dC (.int 4)) (aCons (dB kMin2 (aCons (dB kLen (aCons (dVar 0) (aNil))) (aCons (dC (.int 62)) (aNil)))) (aNil)))) (dC (.int 2))) (gN 2) (b_L_points_1 S_L_number S_L_cell))
  (t_L_points_2 S_L_number S_L_cell)
def d_L_points (S_L_number : Fsp) (S_L_cell : Fsp) : DS :=
  sSeq (sAsg (dLst (aNil)) (gN 1))
  (t_L_points_1 S_L_number S_L_cell)
theorem ok_L_points {P : Program} {w : World} {K : PySem.W.Frag} {mg : MG} {base : Heap} {f : Addr} {fd : FuncData} {S_L_number : Fsp} {S_L_cell : Fsp} {S : Fsp} (F : Fun K "_law_points" "_law_points" s_L_points f fd) (hm : mg "_law_points" = some (.ref f)) (bb : Binds K fd ["script"] []) (B : Bs mg) (G : Ks mg) (EX : Es K mg) (F_L_number : Cal P w K mg base 1 "_law_number" ["cell"] ms_L_number S_L_number) (F_L_cell : Cal P w K mg base 1 "_law_cell" ["script", "k"] ms_L_cell S_L_cell)
    (sem : ∀ ds κ ε, S ds κ ε → d_L_points S_L_number S_L_cell (endsOf κ ε) (entry ms_L_points 4 ds)) : Cal P w K mg base 2 "_law_points" ["script"] ms_L_points S :=
  ⟨f, fd, fn_dl (k := 1) F sc_L_points rfl (fun cdv A outer s H E C => mss_cons (ms_set 1 C.nd (me_lst (ma_nil)))
  (mss_cons (ms_for C (mi_rng3 B.range_ (me_int) (me_max2 C.hc B.max_ (ma_cons (me_int) (ma_cons (me_min2 C.hc B.min_ (ma_cons (me_len B.len_ (ma_cons (me_var 0) (ma_nil))) (ma_cons (me_int) (ma_nil)))) (ma_nil)))) (me_int)) (mg_name 2 C.nd)
  (mss_one (ms_app 1 (me_tup (ma_cons (me_callC C F_L_number (ma_cons (me_callC C F_L_cell (ma_cons (me_var 0) (ma_cons (me_var 2) (ma_nil)))) (ma_nil))) (ma_cons (me_callC C F_L_number (ma_cons (me_callC C F_L_cell (ma_cons (me_var 0) (ma_cons (me_add (me_var 2) (me_int)) (ma_nil)))) (ma_nil))) (ma_nil)))))))
  (mss_cons (ms_set 3 C.nd (me_modP (me_callC C F_L_cell (ma_cons (me_var 0) (ma_cons (me_int) (ma_nil)))) (me_int)))
  (mss_cons (ms_if (mt_lt (me_var 3) (me_int))
  (mss_one (ms_set 1 C.nd (me_lc (own := [("k", 2)]) C (mi_rng1 B.range_ (me_add (me_int) (me_var 3))) (blkOk_by (N := ["script", "points", "k", "many"]) (sc := defScope s_L_points) (by decide +kernel)) (fun _ => mg_name 2 (C).blk.nd) (fun _ => mts_nil) (fun _ => me_ix (me_var 1) (me_modP (me_var 2) (me_len B.len_ (ma_cons (me_var 1) (ma_nil))))))))
  (mss_nil))
  (mss_one (ms_retV 1)))))) sem, hm, F.kp, bb⟩
/-! ### _law_changed -/
abbrev s_L_changed : Stmt := topS 19
theorem sc_L_changed : FnScope ["text", "cell", "way", "place", "sign"] ["text", "cell"] (defScope s_L_changed) := ⟨rfl, rfl, rfl, by decide +kernel, rfl, by decide +kernel, by decide +kernel⟩
abbrev ms_L_changed : List Bool := [false, false]
def t_L_changed_10 (S_L_sign : Fsp) : DS :=
  sRetV 0
def t_L_changed_9 (S_L_sign : Fsp) : DS :=
  sSeq (sIf (tVal (dEq (dVar 2) (dC (.int 6))))
  (sRet (dPls (dC (.str " ")) (dVar 0)))
  (sNil))
  (t_L_changed_10 S_L_sign)
def t_L_changed_8 (S_L_sign : Fsp) : DS :=
  sSeq (sIf (tVal (dEq (dVar 2) (dC (.int 5))))
  (sRet (dPls (dVar 0) (dC (.str " "))))
  (sNil))
  (t_L_changed_9 S_L_sign)
def t_L_changed_7 (S_L_sign : Fsp) : DS :=
  sSeq (sIf (tVal (dEq (dVar 2) (dC (.int 4))))
  (sRet (dRep1 (dVar 0) " " "  "))
  (sNil))
  (t_L_changed_8 S_L_sign)
def t_L_changed_6 (S_L_sign : Fsp) : DS :=
  sSeq (sIf (tVal (dEq (dVar 2) (dC (.int 3))))
  (sRet (dPls (dPls (dCutSt (dVar 0) (oNone) (oSome (dVar 3))) (dVar 4)) (dCutSt (dVar 0) (oSome (dAdd (dVar 3) (dC (.int 1)))) (oNone))))
  (sNil))
  (t_L_changed_7 S_L_sign)
def t_L_changed_5 (S_L_sign : Fsp) : DS :=
  sSeq (sIf (tVal (dEq (dVar 2) (dC (.int 2))))
  (sRet (dPls (dCutSt (dVar 0) (oNone) (oSome (dVar 3))) (dCutSt (dVar 0) (oSome (dAdd (dVar 3) (dC (.int 1)))) (oNone))))
  (sNil))
  (t_L_changed_6 S_L_sign)
def t_L_changed_4 (S_L_sign : Fsp) : DS :=
  sSeq (sIf (tVal (dEq (dVar 2) (dC (.int 1))))
  (sRet (dPls (dPls (dCutSt (dVar 0) (oNone) (oSome (dVar 3))) (dVar 4)) (dCutSt (dVar 0) (oSome (dVar 3)) (oNone))))
  (sNil))
  (t_L_changed_5 S_L_sign)
def t_L_changed_3 (S_L_sign : Fsp) : DS :=
  sSeq (sAsg (dCall ms_L_sign S_L_sign (aCons (dDivP (dVar 1) (dB kLenA (aCons (dVar 0) (aNil)))) (aNil))) (gN 4))
  (t_L_changed_4 S_L_sign)
def t_L_changed_2 (S_L_sign : Fsp) : DS :=
  sSeq (sAsg (dModP (dVar 1) (dB kLenA (aCons (dVar 0) (aNil)))) (gN 3))
  (t_L_changed_3 S_L_sign)
def t_L_changed_1 (S_L_sign : Fsp) : DS :=
  sSeq (sAsg (dDivP (dVar 1) (dC (.int 12))) (gN 1))
  (t_L_changed_2 S_L_sign)
def d_L_changed (S_L_sign : Fsp) : DS :=
  sSeq (sAsg (dModP (dVar 1) (dC (.int 12))) (gN 2))
  (t_L_changed_1 S_L_sign)
theorem ok_L_changed {P : Program} {w : World} {K : PySem.W.Frag} {mg : MG} {base : Heap} {f : Addr} {fd : FuncData} {S_L_sign : Fsp} {S : Fsp} (F : Fun K "_law_changed" "_law_changed" s_L_changed f fd) (hm : mg "_law_changed" = some (.ref f)) (bb : Binds K fd ["text", "cell"] []) (B : Bs mg) (G : Ks mg) (EX : Es K mg) (F_L_sign : Cal P w K mg base 1 "_law_sign" ["cell"] ms_L_sign S_L_sign)
    (sem : ∀ ds κ ε, S ds κ ε → d_L_changed S_L_sign (endsOf κ ε) (entry ms_L_changed 5 ds)) : Cal P w K mg base 2 "_law_changed" ["text", "cell"] ms_L_changed S :=
  ⟨f, fd, fn_dl (k := 1) F sc_L_changed rfl (fun cdv A outer s H E C => mss_cons (ms_set 2 C.nd (me_modP (me_var 1) (me_int)))
  (mss_cons (ms_set 1 C.nd (me_divP (me_var 1) (me_int)))
  (mss_cons (ms_set 3 C.nd (me_modP (me_var 1) (me_lenA B.len_ (ma_cons (me_var 0) (ma_nil)))))
  (mss_cons (ms_set 4 C.nd (me_callC C F_L_sign (ma_cons (me_divP (me_var 1) (me_lenA B.len_ (ma_cons (me_var 0) (ma_nil)))) (ma_nil))))
  (mss_cons (ms_if (mt_eq C.hr.units (me_var 2) (me_int))
  (mss_one (ms_ret (me_pls (me_pls (me_cutSt (me_var 0) (mo_none) (mo_some (me_var 3))) (me_var 4)) (me_cutSt (me_var 0) (mo_some (me_var 3)) (mo_none)))))
  (mss_nil))
  (mss_cons (ms_if (mt_eq C.hr.units (me_var 2) (me_int))
  (mss_one (ms_ret (me_pls (me_cutSt (me_var 0) (mo_none) (mo_some (me_var 3))) (me_cutSt (me_var 0) (mo_some (me_add (me_var 3) (me_int))) (mo_none)))))
  (mss_nil))
  (mss_cons (ms_if (mt_eq C.hr.units (me_var 2) (me_int))
  (mss_one (ms_ret (me_pls (me_pls (me_cutSt (me_var 0) (mo_none) (mo_some (me_var 3))) (me_var 4)) (me_cutSt (me_var 0) (mo_some (me_add (me_var 3) (me_int))) (mo_none)))))
  (mss_nil))
  (mss_cons (ms_ifRep1 C.hr.units (me_var 2) (me_var 0))
  (mss_cons (ms_if (mt_eq C.hr.units (me_var 2) (me_int))
  (mss_one (ms_ret (me_pls (me_var 0) (me_str))))
  (mss_nil))
  (mss_cons (ms_if (mt_eq C.hr.units (me_var 2) (me_int))
  (mss_one (ms_ret (me_pls (me_str) (me_var 0))))
  (mss_nil))
  (mss_one (ms_retV 0)))))))))))) sem, hm, F.kp, bb⟩
/-! ### _law_value -/
abbrev s_L_value : Stmt := topS 20
theorem sc_L_value : FnScope ["word", "figures", "number", "sign"] ["word"] (defScope s_L_value) := ⟨rfl, rfl, rfl, by decide +kernel, rfl, by decide +kernel, by decide +kernel⟩
abbrev ms_L_value : List Bool := [false]
def b_L_value_1 : DS :=
  sSeq (sIf (tVal (dLt (dFind (dC (.str "0123456789")) (dVar 3)) (dC (.int 0))))
  (sRet (dC .non))
  (sNil))
  (sAsg (dAdd (dMul (dC (.int 10)) (dVar 2)) (dFind (dC (.str "0123456789")) (dVar 3))) (gN 2))
def t_L_value_8 : DS :=
  sRetV 2
def t_L_value_7 : DS :=
  sSeq (sIf (tVal (dNe (dVar 0) (dVar 1)))
  (sRet (dNeg (dVar 2)))
  (sNil))
  t_L_value_8
def t_L_value_6 : DS :=
  sSeq (sIf (tAndD (tVal (dEq (dIxS (dVar 1) (dC (.int 0))) (dC (.str "0")))) (tOrD (tVal (dGt (dB kLenA (aCons (dVar 1) (aNil))) (dC (.int 1)))) (tVal (dNe (dVar 0) (dVar 1)))))
  (sRet (dC .non))
  (sNil))
  t_L_value_7
def t_L_value_5 : DS :=
  sSeq (sFrz 1 (sFor (iSgn (dVar 1)) (gN 3) b_L_value_1))
  t_L_value_6
def t_L_value_4 : DS :=
  sSeq (sAsg (dC (.int 0)) (gN 2))
  t_L_value_5
def t_L_value_3 : DS :=
  sSeq (sIf (tOrD (tVal (dLt (dB kLenA (aCons (dVar 1) (aNil))) (dC (.int 1)))) (tVal (dGt (dB kLenA (aCons (dVar 1) (aNil))) (dC (.int 60)))))
  (sRet (dC .non))
  (sNil))
  t_L_value_4
def t_L_value_2 : DS :=
  sSeq (sIf (tVal (dEq (dCutSt (dVar 0) (oNone) (oSome (dC (.int 1)))) (dC (.str "-"))))
  (sAsg (dCutSt (dVar 0) (oSome (dC (.int 1))) (oNone)) (gN 1))
  (sNil))
  t_L_value_3
def t_L_value_1 : DS :=
  sSeq (sAsg (dVar 0) (gN 1))
  t_L_value_2
def d_L_value : DS :=
  sSeq (sIf (tNotD (tVal (dIsi .str (dVar 0))))
  (sRet (dC .non))
  (sNil))
  t_L_value_1
theorem ok_L_value {P : Program} {w : World} {K : PySem.W.Frag} {mg : MG} {base : Heap} {f : Addr} {fd : FuncData}  {S : Fsp} (F : Fun K "_law_value" "_law_value" s_L_value f fd) (hm : mg "_law_value" = some (.ref f)) (bb : Binds K fd ["word"] []) (B : Bs mg) (G : Ks mg) (EX : Es K mg) 
    (sem : ∀ ds κ ε, S ds κ ε → d_L_value  (endsOf κ ε) (entry ms_L_value 4 ds)) : Cal P w K mg base 1 "_law_value" ["word"] ms_L_value S :=
  ⟨f, fd, fn_dl (k := 0) F sc_L_value rfl (fun cdv A outer s H E C => mss_cons (ms_if (mt_not (mt_val (me_isi .str (by decide +kernel) B.isinstance_ B.str_ (me_var 0))))
  (mss_one (ms_ret (me_non)))
  (mss_nil))
  (mss_cons (ms_set 1 C.nd (me_var 0))
  (mss_cons (ms_if (mt_eq C.hr.units (me_cutSt (me_var 0) (mo_none) (mo_some (me_int))) (me_str))
  (mss_one (ms_set 1 C.nd (me_cutSt (me_var 0) (mo_some (me_int)) (mo_none))))
  (mss_nil))
  (mss_cons (ms_if (MW.mt (mw_or (mt_lt (me_lenA B.len_ (ma_cons (me_var 1) (ma_nil))) (me_int)) (mw_or1 (mt_gt (me_lenA B.len_ (ma_cons (me_var 1) (ma_nil))) (me_int)))))
  (mss_one (ms_ret (me_non)))
  (mss_nil))
  (mss_cons (ms_set 2 C.nd (me_int))
  (mss_cons (ms_frz 1 (ms_for C (mi_sgn (me_var 1)) (mg_name 3 C.nd)
  (mss_cons (ms_if (mt_lt (me_find (me_str) (me_var 3)) (me_int))
  (mss_one (ms_ret (me_non)))
  (mss_nil))
  (mss_one (ms_set 2 C.nd (me_add (me_mul (me_int) (me_var 2)) (me_find (me_str) (me_var 3))))))))
  (mss_cons (ms_if (MW.mt (mw_and (mt_eq C.hr.units (me_ixS (me_var 1) (me_int)) (me_str)) (mw_and1 (MW.mt (mw_or (mt_gt (me_lenA B.len_ (ma_cons (me_var 1) (ma_nil))) (me_int)) (mw_or1 (mt_ne C.hr.units (me_var 0) (me_var 1))))))))
  (mss_one (ms_ret (me_non)))
  (mss_nil))
  (mss_cons (ms_if (mt_ne C.hr.units (me_var 0) (me_var 1))
  (mss_one (ms_ret (me_neg (me_var 2))))
  (mss_nil))
  (mss_one (ms_retV 2)))))))))) sem, hm, F.kp, bb⟩
/-! ### _law_spots -/
abbrev s_L_spots : Stmt := topS 21
theorem sc_L_spots : FnScope ["text", "found", "word", "first", "comma", "second", "spot"] ["text"] (defScope s_L_spots) := ⟨rfl, rfl, rfl, by decide +kernel, rfl, by decide +kernel, by decide +kernel⟩
abbrev ms_L_spots : List Bool := [false]
def b_L_spots_1 (S_L_value : Fsp) : DS :=
  sSeq (sAsg (dPartition (dVar 2) (dC (.str ","))) (gT 3 (gsCons (gN 3) (gsCons (gN 4) (gsCons (gN 5) (gsNil))))))
  (sSeq (sAsg (dTup (aCons (dCall ms_L_value S_L_value (aCons (dVar 3) (aNil))) (aCons (dCall ms_L_value S_L_value (aCons (dVar 5) (aNil))) (aNil)))) (gN 6))
  (sSeq (sIf (tOrD (tVal (dEq (dVar 4) (dC (.str "")))) (tVal (dInF false (dC .non) (dVar 6))))
  (sRet (dC .non))
  (sNil))
  (sApp 1 (dVar 6))))
def t_L_spots_3 (S_L_value : Fsp) : DS :=
  sRetV 1
def t_L_spots_2 (S_L_value : Fsp) : DS :=
  sSeq (sIf (tVal (dGt (dB kLen (aCons (dVar 1) (aNil))) (dC (.int 60))))
  (sRet (dC .non))
  (sNil))
  (t_L_spots_3 S_L_value)
def t_L_spots_1 (S_L_value : Fsp) : DS :=
  sSeq (sFor (iLst false (dSplit (dVar 0) (dC (.str " ")))) (gN 2) (b_L_spots_1 S_L_value))
  (t_L_spots_2 S_L_value)
def d_L_spots (S_L_value : Fsp) : DS :=
  sSeq (sAsg (dLst (aNil)) (gN 1))
  (t_L_spots_1 S_L_value)
theorem ok_L_spots {P : Program} {w : World} {K : PySem.W.Frag} {mg : MG} {base : Heap} {f : Addr} {fd : FuncData} {S_L_value : Fsp} {S : Fsp} (F : Fun K "_law_spots" "_law_spots" s_L_spots f fd) (hm : mg "_law_spots" = some (.ref f)) (bb : Binds K fd ["text"] []) (B : Bs mg) (G : Ks mg) (EX : Es K mg) (F_L_value : Cal P w K mg base 1 "_law_value" ["word"] ms_L_value S_L_value)
    (sem : ∀ ds κ ε, S ds κ ε → d_L_spots S_L_value (endsOf κ ε) (entry ms_L_spots 7 ds)) : Cal P w K mg base 2 "_law_spots" ["text"] ms_L_spots S :=
  ⟨f, fd, fn_dl (k := 1) F sc_L_spots rfl (fun cdv A outer s H E C => mss_cons (ms_set 1 C.nd (me_lst (ma_nil)))
  (mss_cons (ms_for C (mi_list (me_split (me_var 0) (me_str))) (mg_name 2 C.nd)
  (mss_cons (ms_asg (me_partition (me_var 2) (me_str)) (mg_tup C.hc (mgs_cons (mg_name 3 C.nd) (mgs_cons (mg_name 4 C.nd) (mgs_cons (mg_name 5 C.nd) (mgs_nil))))))
  (mss_cons (ms_set 6 C.nd (me_tup (ma_cons (me_callC C F_L_value (ma_cons (me_var 3) (ma_nil))) (ma_cons (me_callC C F_L_value (ma_cons (me_var 5) (ma_nil))) (ma_nil)))))
  (mss_cons (ms_if (MW.mt (mw_or (mt_eq C.hr.units (me_var 4) (me_str)) (mw_or1 (mt_inF (me_non) (me_var 6)))))
  (mss_one (ms_ret (me_non)))
  (mss_nil))
  (mss_one (ms_app 1 (me_var 6)))))))
  (mss_cons (ms_if (mt_gt (me_len B.len_ (ma_cons (me_var 1) (ma_nil))) (me_int))
  (mss_one (ms_ret (me_non)))
  (mss_nil))
  (mss_one (ms_retV 1))))) sem, hm, F.kp, bb⟩
/-! ### _law_refused -/
abbrev s_L_refused : Stmt := topS 22
theorem sc_L_refused : FnScope ["text", "some", "plain", "e"] ["text"] (defScope s_L_refused) := ⟨rfl, rfl, rfl, by decide +kernel, rfl, by decide +kernel, by decide +kernel⟩
abbrev ms_L_refused : List Bool := [false]
def t_L_refused_3 (S_read_points : Fsp) : DS :=
  sRet (dAnd (dVar 2) (dEq (dVar 1) (dLst (aCons (dC (.bl true)) (aCons (dC (.bl false)) (aCons (dC (.bl false)) (aNil)))))))
def t_L_refused_2 (S_read_points : Fsp) : DS :=
  sSeq (sTryAs exM "StakeError" 3 (sDrop (dCall ms_read_points S_read_points (aCons (dVar 0) (aNil)))) (fun a nm => sSeq (sAsg (dLst (aCons (dIsx exI a nm 3 "NoText") (aCons (dIsx exI a nm 3 "NoRow") (aCons (dIsx exI a nm 3 "NoName") (aNil))))) (gN 1))
  (sAsg (dIsx exI a nm 3 "ValueError") (gN 2))))
  (t_L_refused_3 S_read_points)
def t_L_refused_1 (S_read_points : Fsp) : DS :=
  sSeq (sAsg (dC (.bl false)) (gN 2))
  (t_L_refused_2 S_read_points)
def d_L_refused (S_read_points : Fsp) : DS :=
  sSeq (sAsg (dLst (aNil)) (gN 1))
  (t_L_refused_1 S_read_points)
theorem ok_L_refused {P : Program} {w : World} {K : PySem.W.Frag} {mg : MG} {base : Heap} {f : Addr} {fd : FuncData} {S_read_points : Fsp} {S : Fsp} (F : Fun K "_law_refused" "_law_refused" s_L_refused f fd) (hm : mg "_law_refused" = some (.ref f)) (bb : Binds K fd ["text"] []) (B : Bs mg) (G : Ks mg) (EX : Es K mg) (F_read_points : Cal P w K mg base 3 "read_points" ["text"] ms_read_points S_read_points)
    (sem : ∀ ds κ ε, S ds κ ε → d_L_refused S_read_points (endsOf κ ε) (entry ms_L_refused 4 ds)) : Cal P w K mg base 4 "_law_refused" ["text"] ms_L_refused S :=
  ⟨f, fd, fn_dl (k := 3) F sc_L_refused rfl (fun cdv A outer s H E C => mss_cons (ms_set 1 C.nd (me_lst (ma_nil)))
  (mss_cons (ms_set 2 C.nd (me_bl))
  (mss_cons (ms_tryAs (is := exI) 3 rfl rfl C.nd C.tk EX.xs EX.c_StakeError (fun W pn xe tk po => mss_one (ms_drop (me_callC (C.tr tk po) F_read_points (ma_cons (me_var 0) (ma_nil)))))
  (fun a oe cls nm pn hz hfl hm => mss_cons (ms_set 1 C.nd (me_lst (ma_cons (me_isx (ms := exM) 3 EX.xs hz hfl hm B.isinstance_) (ma_cons (me_isx (ms := exM) 3 EX.xs hz hfl hm B.isinstance_) (ma_cons (me_isx (ms := exM) 3 EX.xs hz hfl hm B.isinstance_) (ma_nil))))))
  (mss_one (ms_set 2 C.nd (me_isx (ms := exM) 3 EX.xs hz hfl hm B.isinstance_)))))
  (mss_one (ms_ret (me_and (me_var 2) (me_one (me_eq C.hr.units (me_var 1) (me_lst (ma_cons (me_bl) (ma_cons (me_bl) (ma_cons (me_bl) (ma_nil))))))))))))) sem, hm, F.kp, bb⟩
/-! ### _law_good -/
abbrev s_L_good : Stmt := topS 23
theorem sc_L_good : FnScope ["found", "due", "spot", "number"] ["found", "due"] (defScope s_L_good) := ⟨rfl, rfl, rfl, by decide +kernel, rfl, by decide +kernel, by decide +kernel⟩
abbrev ms_L_good : List Bool := [false, false]
def b_L_good_1 : DS :=
  sIf (tOrD (tNotD (tVal (dIsi .int (dVar 3)))) (tVal (dIsi .bool (dVar 3))))
  (sRet (dC (.bl false)))
  (sNil)
def b_L_good_2 : DS :=
  sSeq (sIf (tNotD (tVal (dIsi .tuple (dVar 2))))
  (sRet (dC (.bl false)))
  (sNil))
  (sFrz 2 (sFor (iTupD (dVar 2)) (gN 3) b_L_good_1))
def t_L_good_2 : DS :=
  sRet (dC (.bl true))
def t_L_good_1 : DS :=
  sSeq (sFor (iLst false (dVar 0)) (gN 2) b_L_good_2)
  t_L_good_2
def d_L_good : DS :=
  sSeq (sIf (tOrD (tNotD (tVal (dIsi .list (dVar 0)))) (tVal (dNe (dVar 0) (dVar 1))))
  (sRet (dC (.bl false)))
  (sNil))
  t_L_good_1
theorem ok_L_good {P : Program} {w : World} {K : PySem.W.Frag} {mg : MG} {base : Heap} {f : Addr} {fd : FuncData}  {S : Fsp} (F : Fun K "_law_good" "_law_good" s_L_good f fd) (hm : mg "_law_good" = some (.ref f)) (bb : Binds K fd ["found", "due"] []) (B : Bs mg) (G : Ks mg) (EX : Es K mg) 
    (sem : ∀ ds κ ε, S ds κ ε → d_L_good  (endsOf κ ε) (entry ms_L_good 4 ds)) : Cal P w K mg base 1 "_law_good" ["found", "due"] ms_L_good S :=
  ⟨f, fd, fn_dl (k := 0) F sc_L_good rfl (fun cdv A outer s H E C => mss_cons (ms_if (MW.mt (mw_or (mt_not (mt_val (me_isi .list (by decide +kernel) B.isinstance_ B.list_ (me_var 0)))) (mw_or1 (mt_ne C.hr.units (me_var 0) (me_var 1)))))
  (mss_one (ms_ret (me_bl)))
  (mss_nil))
  (mss_cons (ms_for C (mi_list (me_var 0)) (mg_name 2 C.nd)
  (mss_cons (ms_if (mt_not (mt_val (me_isi .tuple (by decide +kernel) B.isinstance_ B.tuple_ (me_var 2))))
  (mss_one (ms_ret (me_bl)))
  (mss_nil))
  (mss_one (ms_frz 2 (ms_for C (mi_tup (me_var 2)) (mg_name 3 C.nd)
  (mss_one (ms_if (MW.mt (mw_or (mt_not (mt_val (me_isi .int (by decide +kernel) B.isinstance_ B.int_ (me_var 3)))) (mw_or1 (mt_val (me_isi .bool (by decide +kernel) B.isinstance_ B.bool_ (me_var 3))))))
  (mss_one (ms_ret (me_bl)))
  (mss_nil))))))))
  (mss_one (ms_ret (me_bl))))) sem, hm, F.kp, bb⟩
/-! ### law -/
abbrev s_law : Stmt := topS 24
theorem sc_law : FnScope ["script", "points", "text", "x", "y", "handed", "due", "thing", "found"] ["script"] (defScope s_law) := ⟨rfl, rfl, rfl, by decide +kernel, rfl, by decide +kernel, by decide +kernel⟩
abbrev ms_law : List Bool := [false]
def b_law_1 : DE :=
  dPls (dPls (dB kStr (aCons (dVar 3) (aNil))) (dC (.str ","))) (dB kStr (aCons (dVar 4) (aNil)))
def b_law_2 (S_L_refused : Fsp) : DS :=
  sIf (tNotD (tVal (dCall ms_L_refused S_L_refused (aCons (dVar 7) (aNil)))))
  (sRet (dC (.bl false)))
  (sNil)
def t_law_10 (S_L_points : Fsp) (S_show_points : Fsp) (S_L_changed : Fsp) (S_L_cell : Fsp) (S_L_spots : Fsp) (S_L_refused : Fsp) (S_read_points : Fsp) (S_L_good : Fsp) : DS :=
  sRet (dCall ms_L_good S_L_good (aCons (dCall ms_read_points S_read_points (aCons (dVar 2) (aNil))) (aCons (dVar 6) (aNil))))
def t_law_9 (S_L_points : Fsp) (S_show_points : Fsp) (S_L_changed : Fsp) (S_L_cell : Fsp) (S_L_spots : Fsp) (S_L_refused : Fsp) (S_read_points : Fsp) (S_L_good : Fsp) : DS :=
  sSeq (sApp 8 (dTup (aCons (dC (.int 0)) (aCons (dC (.int 0)) (aNil)))))
  (t_law_10 S_L_points S_show_points S_L_changed S_L_cell S_L_spots S_L_refused S_read_points S_L_good)
def t_law_8 (S_L_points : Fsp) (S_show_points : Fsp) (S_L_changed : Fsp) (S_L_cell : Fsp) (S_L_spots : Fsp) (S_L_refused : Fsp) (S_read_points : Fsp) (S_L_good : Fsp) : DS :=
  sSeq (sIf (tNotD (tVal (dCall ms_L_good S_L_good (aCons (dVar 8) (aCons (dVar 6) (aNil))))))
  (sRet (dC (.bl false)))
  (sNil))
  (t_law_9 S_L_points S_show_points S_L_changed S_L_cell S_L_spots S_L_refused S_read_points S_L_good)
def t_law_7 (S_L_points : Fsp) (S_show_points : Fsp) (S_L_changed : Fsp) (S_L_cell : Fsp) (S_L_spots : Fsp) (S_L_refused : Fsp) (S_read_points : Fsp) (S_L_good : Fsp) : DS :=
  sSeq (sAsg (dCall ms_read_points S_read_points (aCons (dVar 2) (aNil))) (gN 8))
  (t_law_8 S_L_points S_show_points S_L_changed S_L_cell S_L_spots S_L_refused S_read_points S_L_good)
def t_law_6 (S_L_points : Fsp) (S_show_points : Fsp) (S_L_changed : Fsp) (S_L_cell : Fsp) (S_L_spots : Fsp) (S_L_refused : Fsp) (S_read_points : Fsp) (S_L_good : Fsp) : DS :=
  sSeq (sIf (tVal (dIsN false (dVar 6)))
  (sRet (dCall ms_L_refused S_L_refused (aCons (dVar 2) (aNil))))
  (sNil))
  (t_law_7 S_L_points S_show_points S_L_changed S_L_cell S_L_spots S_L_refused S_read_points S_L_good)
def t_law_5 (S_L_points : Fsp) (S_show_points : Fsp) (S_L_changed : Fsp) (S_L_cell : Fsp) (S_L_spots : Fsp) (S_L_refused : Fsp) (S_read_points : Fsp) (S_L_good : Fsp) : DS :=
  sSeq (sFrz 1 (sFor (iLst false (dLst (aCons (dC .non) (aCons (dVar 1) (aCons (dTup (aCons (dC (.str "0,0")) (aNil))) (aCons (dC (.int 7)) (aCons (dC (.str "")) (aCons (dC (.str " ")) (aNil))))))))) (gN 7) (b_law_2 S_L_refused)))
  (t_law_6 S_L_points S_show_points S_L_changed S_L_cell S_L_spots S_L_refused S_read_points S_L_good)
def t_law_4 (S_L_points : Fsp) (S_show_points : Fsp) (S_L_changed : Fsp) (S_L_cell : Fsp) (S_L_spots : Fsp) (S_L_refused : Fsp) (S_read_points : Fsp) (S_L_good : Fsp) : DS :=
  sSeq (sAsg (dCall ms_L_spots S_L_spots (aCons (dVar 2) (aNil))) (gN 6))
  (t_law_5 S_L_points S_show_points S_L_changed S_L_cell S_L_spots S_L_refused S_read_points S_L_good)
def t_law_3 (S_L_points : Fsp) (S_show_points : Fsp) (S_L_changed : Fsp) (S_L_cell : Fsp) (S_L_spots : Fsp) (S_L_refused : Fsp) (S_read_points : Fsp) (S_L_good : Fsp) : DS :=
  sSeq (sAsg (dCall ms_L_changed S_L_changed (aCons (dVar 2) (aCons (dModP (dCall ms_L_cell S_L_cell (aCons (dVar 0) (aCons (dC (.int 1)) (aNil)))) (dPow (dC (.int 10)) (dC (.int 30)))) (aNil)))) (gN 2))
  (t_law_4 S_L_points S_show_points S_L_changed S_L_cell S_L_spots S_L_refused S_read_points S_L_good)
def t_law_2 (S_L_points : Fsp) (S_show_points : Fsp) (S_L_changed : Fsp) (S_L_cell : Fsp) (S_L_spots : Fsp) (S_L_refused : Fsp) (S_read_points : Fsp) (S_L_good : Fsp) : DS :=
  sSeq (sIf (tVal (dLe (dB kLen (aCons (dVar 1) (aNil))) (dC (.int 60))))
  (sSeq (sAsg (dB kList (aCons (dVar 1) (aNil))) (gN 5))
  (sIf (tOrD (tVal (dNe (dCall ms_show_points S_show_points (aCons (dVar 5) (aNil))) (dVar 2))) (tVal (dNe (dVar 5) (dVar 1))))
  (sRet (dC (.bl false)))
  (sNil)))
  (sNil))
  (t_law_3 S_L_points S_show_points S_L_changed S_L_cell S_L_spots S_L_refused S_read_points S_L_good)
def t_law_1 (S_L_points : Fsp) (S_show_points : Fsp) (S_L_changed : Fsp) (S_L_cell : Fsp) (S_L_spots : Fsp) (S_L_refused : Fsp) (S_read_points : Fsp) (S_L_good : Fsp) : DS :=
  sSeq (sAsg (dJoin (dC (.str " ")) (dLc (iLst true (dVar 1)) (gT 2 (gsCons (gN 3) (gsCons (gN 4) (gsNil)))) tYesD b_law_1 [3, 4])) (gN 2))
  (t_law_2 S_L_points S_show_points S_L_changed S_L_cell S_L_spots S_L_refused S_read_points S_L_good)
def d_law (S_L_points : Fsp) (S_show_points : Fsp) (S_L_changed : Fsp) (S_L_cell : Fsp) (S_L_spots : Fsp) (S_L_refused : Fsp) (S_read_points : Fsp) (S_L_good : Fsp) : DS :=
  sSeq (sAsg (dCall ms_L_points S_L_points (aCons (dVar 0) (aNil))) (gN 1))
  (t_law_1 S_L_points S_show_points S_L_changed S_L_cell S_L_spots S_L_refused S_read_points S_L_good)
theorem ok_law {P : Program} {w : World} {K : PySem.W.Frag} {mg : MG} {base : Heap} {f : Addr} {fd : FuncData} {S_L_points : Fsp} {S_show_points : Fsp} {S_L_changed : Fsp} {S_L_cell : Fsp} {S_L_spots : Fsp} {S_L_refused : Fsp} {S_read_points : Fsp} {S_L_good : Fsp} {S : Fsp} (F : Fun K "law" "law" s_law f fd) (hm : mg "law" = some (.ref f)) (bb : Binds K fd ["script"] []) (B : Bs mg) (G : Ks mg) (EX : Es K mg) (F_L_points : Cal P w K mg base 2 "_law_points" ["script"] ms_L_points S_L_points) (F_show_points : Cal P w K mg base 3 "show_points" ["points"] ms_show_points S_show_points) (F_L_changed : Cal P w K mg base 2 "_law_changed" ["text", "cell"] ms_L_changed S_L_changed) (F_L_cell : Cal P w K mg base 1 "_law_cell" ["script", "k"] ms_L_cell S_L_cell) (F_L_spots : Cal P w K mg base 2 "_law_spots" ["text"] ms_L_spots S_L_spots) (F_L_refused : Cal P w K mg base 4 "_law_refused" ["text"] ms_L_refused S_L_refused) (F_read_points : Cal P w K mg base 3 "read_points" ["text"] ms_read_points S_read_points) (F_L_good : Cal P w K mg base 1 "_law_good" ["found", "due"] ms_L_good S_L_good)
    (sem : ∀ ds κ ε, S ds κ ε → d_law S_L_points S_show_points S_L_changed S_L_cell S_L_spots S_L_refused S_read_points S_L_good (endsOf κ ε) (entry ms_law 9 ds)) : Cal P w K mg base 5 "law" ["script"] ms_law S :=
  ⟨f, fd, fn_dl (k := 4) F sc_law rfl (fun cdv A outer s H E C => mss_cons (ms_set 1 C.nd (me_callC C F_L_points (ma_cons (me_var 0) (ma_nil))))
  (mss_cons (ms_set 2 C.nd (me_join (me_str) (me_lc (own := [("x", 3), ("y", 4)]) C (mi_list (me_var 1)) (blkOk_by (N := ["script", "points", "text", "x", "y", "handed", "due", "thing", "found"]) (sc := defScope s_law) (by decide +kernel)) (fun _ => mg_tup (C).blk.hc (mgs_cons (mg_name 3 (C).blk.nd) (mgs_cons (mg_name 4 (C).blk.nd) (mgs_nil)))) (fun _ => mts_nil) (fun _ => me_pls (me_pls (me_toStr B.str_ (ma_cons (me_var 3) (ma_nil))) (me_str)) (me_toStr B.str_ (ma_cons (me_var 4) (ma_nil)))))))
  (mss_cons (ms_if (mt_le (me_len B.len_ (ma_cons (me_var 1) (ma_nil))) (me_int))
  (mss_cons (ms_set 5 C.nd (me_list B.list_ (ma_cons (me_var 1) (ma_nil))))
  (mss_one (ms_if (MW.mt (mw_or (mt_ne C.hr.units (me_callC C F_show_points (ma_cons (me_var 5) (ma_nil))) (me_var 2)) (mw_or1 (mt_ne C.hr.units (me_var 5) (me_var 1)))))
  (mss_one (ms_ret (me_bl)))
  (mss_nil))))
  (mss_nil))
  (mss_cons (ms_set 2 C.nd (me_callC C F_L_changed (ma_cons (me_var 2) (ma_cons (me_modP (me_callC C F_L_cell (ma_cons (me_var 0) (ma_cons (me_int) (ma_nil)))) (me_pow (me_int) (me_int))) (ma_nil)))))
  (mss_cons (ms_set 6 C.nd (me_callC C F_L_spots (ma_cons (me_var 2) (ma_nil))))
  (mss_cons (ms_frz 1 (ms_for C (mi_list (me_lst (ma_cons (me_non) (ma_cons (me_var 1) (ma_cons (me_tup (ma_cons (me_str) (ma_nil))) (ma_cons (me_int) (ma_cons (me_str) (ma_cons (me_str) (ma_nil))))))))) (mg_name 7 C.nd)
  (mss_one (ms_if (mt_not (mt_val (me_callC C F_L_refused (ma_cons (me_var 7) (ma_nil)))))
  (mss_one (ms_ret (me_bl)))
  (mss_nil)))))
  (mss_cons (ms_if (mt_isN (me_var 6))
  (mss_one (ms_ret (me_callC C F_L_refused (ma_cons (me_var 2) (ma_nil)))))
  (mss_nil))
  (mss_cons (ms_set 8 C.nd (me_callC C F_read_points (ma_cons (me_var 2) (ma_nil))))
  (mss_cons (ms_if (mt_not (mt_val (me_callC C F_L_good (ma_cons (me_var 8) (ma_cons (me_var 6) (ma_nil))))))
  (mss_one (ms_ret (me_bl)))
  (mss_nil))
  (mss_cons (ms_app 8 (me_tup (ma_cons (me_int) (ma_cons (me_int) (ma_nil)))))
  (mss_one (ms_ret (me_callC C F_L_good (ma_cons (me_callC C F_read_points (ma_cons (me_var 2) (ma_nil))) (ma_cons (me_var 6) (ma_nil)))))))))))))))) sem, hm, F.kp, bb⟩
theorem fn_law {P : Program} {w : World} {K : PySem.W.Frag} {mg : MG} {base : Heap} {f : Addr} {fd : FuncData} {S_L_points : Fsp} {S_show_points : Fsp} {S_L_changed : Fsp} {S_L_cell : Fsp} {S_L_spots : Fsp} {S_L_refused : Fsp} {S_read_points : Fsp} {S_L_good : Fsp} {S : Fsp} (F : Fun K "law" "law" s_law f fd) (B : Bs mg) (G : Ks mg) (EX : Es K mg) (F_L_points : Cal P w K mg base 2 "_law_points" ["script"] ms_L_points S_L_points) (F_show_points : Cal P w K mg base 3 "show_points" ["points"] ms_show_points S_show_points) (F_L_changed : Cal P w K mg base 2 "_law_changed" ["text", "cell"] ms_L_changed S_L_changed) (F_L_cell : Cal P w K mg base 1 "_law_cell" ["script", "k"] ms_L_cell S_L_cell) (F_L_spots : Cal P w K mg base 2 "_law_spots" ["text"] ms_L_spots S_L_spots) (F_L_refused : Cal P w K mg base 4 "_law_refused" ["text"] ms_L_refused S_L_refused) (F_read_points : Cal P w K mg base 3 "read_points" ["text"] ms_read_points S_read_points) (F_L_good : Cal P w K mg base 1 "_law_good" ["found", "due"] ms_L_good S_L_good)
    (sem : ∀ ds κ ε, S ds κ ε → d_law S_L_points S_show_points S_L_changed S_L_cell S_L_spots S_L_refused S_read_points S_L_good (endsOf κ ε) (entry ms_law 9 ds)) : FnOk P w K mg base (L2.CX P w) 5 f fd ["script"] (spOf K mg ms_law S) :=
  fn_dl (k := 4) F sc_law rfl (fun cdv A outer s H E C => mss_cons (ms_set 1 C.nd (me_callC C F_L_points (ma_cons (me_var 0) (ma_nil))))
  (mss_cons (ms_set 2 C.nd (me_join (me_str) (me_lc (own := [("x", 3), ("y", 4)]) C (mi_list (me_var 1)) (blkOk_by (N := ["script", "points", "text", "x", "y", "handed", "due", "thing", "found"]) (sc := defScope s_law) (by decide +kernel)) (fun _ => mg_tup (C).blk.hc (mgs_cons (mg_name 3 (C).blk.nd) (mgs_cons (mg_name 4 (C).blk.nd) (mgs_nil)))) (fun _ => mts_nil) (fun _ => me_pls (me_pls (me_toStr B.str_ (ma_cons (me_var 3) (ma_nil))) (me_str)) (me_toStr B.str_ (ma_cons (me_var 4) (ma_nil)))))))
  (mss_cons (ms_if (mt_le (me_len B.len_ (ma_cons (me_var 1) (ma_nil))) (me_int))
  (mss_cons (ms_set 5 C.nd (me_list B.list_ (ma_cons (me_var 1) (ma_nil))))
  (mss_one (ms_if (MW.mt (mw_or (mt_ne C.hr.units (me_callC C F_show_points (ma_cons (me_var 5) (ma_nil))) (me_var 2)) (mw_or1 (mt_ne C.hr.units (me_var 5) (me_var 1)))))
  (mss_one (ms_ret (me_bl)))
  (mss_nil))))
  (mss_nil))
  (mss_cons (ms_set 2 C.nd (me_callC C F_L_changed (ma_cons (me_var 2) (ma_cons (me_modP (me_callC C F_L_cell (ma_cons (me_var 0) (ma_cons (me_int) (ma_nil)))) (me_pow (me_int) (me_int))) (ma_nil)))))
  (mss_cons (ms_set 6 C.nd (me_callC C F_L_spots (ma_cons (me_var 2) (ma_nil))))
  (mss_cons (ms_frz 1 (ms_for C (mi_list (me_lst (ma_cons (me_non) (ma_cons (me_var 1) (ma_cons (me_tup (ma_cons (me_str) (ma_nil))) (ma_cons (me_int) (ma_cons (me_str) (ma_cons (me_str) (ma_nil))))))))) (mg_name 7 C.nd)
  (mss_one (ms_if (mt_not (mt_val (me_callC C F_L_refused (ma_cons (me_var 7) (ma_nil)))))
  (mss_one (ms_ret (me_bl)))
  (mss_nil)))))
  (mss_cons (ms_if (mt_isN (me_var 6))
  (mss_one (ms_ret (me_callC C F_L_refused (ma_cons (me_var 2) (ma_nil)))))
  (mss_nil))
  (mss_cons (ms_set 8 C.nd (me_callC C F_read_points (ma_cons (me_var 2) (ma_nil))))
  (mss_cons (ms_if (mt_not (mt_val (me_callC C F_L_good (ma_cons (me_var 8) (ma_cons (me_var 6) (ma_nil))))))
  (mss_one (ms_ret (me_bl)))
  (mss_nil))
  (mss_cons (ms_app 8 (me_tup (ma_cons (me_int) (ma_cons (me_int) (ma_nil)))))
  (mss_one (ms_ret (me_callC C F_L_good (ma_cons (me_callC C F_read_points (ma_cons (me_var 2) (ma_nil))) (ma_cons (me_var 6) (ma_nil)))))))))))))))) sem
end Py
local macro_rules | `(tactic| walk_at "bt") => `(tactic| first
  | assumption
  | ((with_reducible apply DL.Bt.add) <;> walk_at "bt")
  | ((with_reducible apply DL.Bt.sub) <;> walk_at "bt")
  | ((with_reducible apply DL.Bt.mul) <;> walk_at "bt")
  | ((with_reducible apply DL.Bt.neg) <;> walk_at "bt")
  | with_reducible exact DL.Bt.emod' (by decide +kernel)
  | ((with_reducible apply DL.Bt.ediv) <;> walk_at "bt")
  | ((with_reducible apply DL.Bt.ite) <;> walk_at "bt")
  | ((with_reducible apply DL.BP.x) <;> assumption)
  | ((with_reducible apply DL.BP.y) <;> assumption)
  | with_reducible exact DL.Bt.any)
local macro_rules | `(tactic| walk_at "btl") => `(tactic| ((apply DL.Bt.le); (focus (walk_at "bt")); decide +kernel))
local macro_rules | `(tactic| walk_at "side") => `(tactic| first
  | with_reducible exact rfl
  | ((with_reducible apply DL.modp_lit); decide +kernel)
  | ((with_reducible apply DL.divp_lit); decide +kernel)
  | ((with_reducible apply DL.cpow_lit); decide +kernel)
  | ((with_reducible apply DL.mulok); (focus (walk_at "bt")); (focus (walk_at "bt")); decide +kernel)
  | with_reducible exact DL.Cls.modp (by assumption)
  | with_reducible exact DL.Cls.rng (by assumption)
  | exact ⟨rfl, rfl⟩
  | exact rfl)
local macro_rules | `(tactic| walk_at "go") => `(tactic| repeat (refine ⟨by walk_at "side", ?_⟩))
local macro_rules | `(tactic| walk_at "st1") => `(tactic| first
  | refine ⟨by walk_at "side", ?_⟩
  | refine DL.ifF rfl ?_
  | refine DL.ifT rfl ?_
  | (refine DL.Cls.ix ?_ _ ?_; assumption; intro _ _)
  | (refine DL.S_num_go ?_ ?_; (focus (walk_at "btl")); intro _ _)
  | walk_at "call")
local macro_rules | `(tactic| walk_at "st") => `(tactic| repeat (walk_at "st1"))
local macro_rules | `(tactic| walk_at "br") => `(tactic| repeat' (first | walk_at "st1" | refine DL.ifb (fun _ => ?_) (fun _ => ?_)))
local macro_rules | `(tactic| walk_at "ite") => `(tactic| ((repeat' split) <;> omega))
local macro_rules | `(tactic| walk_at "rng3") => `(tactic| (refine ⟨DL.rN _ _ _, DL.rgC_up ?_ ?_ ?_ ?_ ?_ ?_, ?_⟩; decide; decide; (focus (walk_at "ite")); (focus (walk_at "ite")); decide; decide))
local macro_rules | `(tactic| walk_at "nz") => `(tactic| dsimp only [List.set_cons_succ, List.set_cons_zero])
local macro_rules | `(tactic| walk_at "w") => `(tactic| conv => whnf)
local macro_rules | `(tactic| walk_at "lp") => `(tactic| (walk_at "w"; refine ⟨rfl, ?_⟩; walk_at "w"))
local macro_rules | `(tactic| walk_at "isx") => `(tactic| repeat (first | refine ⟨rfl, ?_⟩ | refine DL.onS_some rfl ?_ | refine ⟨Nat.le_of_lt (DL.sz_ok (by decide)), ?_⟩))
local macro_rules | `(tactic| walk_at "eq") => `(tactic| (refine ⟨⟨rfl, rfl⟩, ?_⟩; walk_at "w"))
local macro_rules | `(tactic| walk_at "au") => `(tactic| repeat (first | (refine DL.onS_some rfl ?_; walk_at "w") | (refine ⟨⟨rfl, rfl⟩, ?_⟩; walk_at "w") | (refine ⟨rfl, ?_⟩; walk_at "w") | (refine ⟨by walk_at "side", ?_⟩; walk_at "w") | (refine ⟨Nat.le_of_lt (DL.sz_ok (by decide)), ?_⟩; walk_at "w")))
local macro_rules | `(tactic| walk_at "au1") => `(tactic| (walk_at "w"; first | refine DL.onS_some rfl ?_ | refine ⟨⟨rfl, rfl⟩, ?_⟩ | refine ⟨rfl, ?_⟩ | refine ⟨by walk_at "side", ?_⟩ | refine ⟨Nat.le_of_lt (DL.sz_ok (by decide)), ?_⟩))
namespace Py
open PySem PySem.Spec PyProof.Rows L2 DL Txp TL
inductive S_read_number : List Dat → (Rv → Prop) → (Str → Prop) → Prop
  | mk {κ : Rv → Prop} {ε : Str → Prop} (d : Dat) (hd : ∀ x, d = .str x → x.length ≤ 100000 ∧ PyData.strOk x = true) (kn : valD d = none → ε "NoText") (kk : ∀ n, valD d = some n → κ (.v (.int n))) : S_read_number [d] κ ε
theorem cut_ok {x : Str} (h : PyData.strOk x = true) (lo hi : Option Int) : PyData.strOk (cutS x lo hi) = true := by
  unfold PyData.strOk at *
  rw [Array.all_eq_true'] at *
  intro c hc
  refine h c ?_
  have hc : c ∈ (x.cps.toList.drop _).take _ := Array.mem_toList_iff.mpr hc
  exact Array.mem_toList_iff.mp (List.mem_of_mem_drop (List.mem_of_mem_take hc))
theorem sem_read_number : ∀ ds κ ε, S_read_number ds κ ε → d_read_number (endsOf κ ε) (entry ms_read_number 3 ds) := by
  intro ds κ ε h
  obtain ⟨d, hd, kn, kk⟩ := h
  cases d with
  | str x =>
    obtain ⟨hl, ok⟩ := hd x rfl
    have kn : valS x = none → ε "NoText" := kn
    have kk : ∀ n, valS x = some n → κ (.v (.int n)) := kk
    have sz : ∀ y : Str, y.length ≤ 100000 → y.length ≤ sizeLine := fun y h => Nat.le_trans h (by decide)
    have no : ¬ OkF x → ε "NoText" := fun h => kn (if_neg h)
    have t3 : ∀ f : Str, tl f = figs x → f.length ≤ 100000 → PyData.strOk f = true → t_read_number_3 (endsOf κ ε) [.fz (.str x), .fz (.str f), .un] := by
      intro f ef lf okf
      refine ⟨⟨shpS okf, shpS (by decide +kernel)⟩, ifS (fun z => ?_) fun z => ?_⟩
      · refine no fun o => ?_
        have := o.1
        rw [← ef, z, empty_] at this
        exact absurd this (by decide)
      refine ⟨sz f lf, ?_⟩
      refine ifd (fun c => ?_) fun c => ?_
      · have c : (f.length : Int) > 60 := c
        refine no fun o => ?_
        have := o.2.1
        rw [← ef, ← len_tl] at this
        omega
      have c : ¬ (f.length : Int) > 60 := c
      have fne : tl f ≠ [] := fun y => z (ext_tl (by rw [y, empty_]))
      show t_read_number_4 (endsOf κ ε) [.fz (.str x), .fz (.str f), .un]
      refine for_map (f := fun c : Nat => Dat.str ⟨#[c]⟩) (xs := tl f) (fun i ρ => (∃ s2, ρ = [.fz (.str x), .fz (.str f), s2]) ∧ ∀ c ∈ (tl f).take i, 48 ≤ c ∧ c ≤ 57) ⟨⟨_, rfl⟩, by simp⟩ (fun i c' ρ N hc h hN => ?_) (fun ρ h => ?_)
      · obtain ⟨⟨s2, rfl⟩, ha⟩ := h
        refine ⟨c', rfl, ?_⟩
        show if (!decide (c' ∈ tl (Str.ofString "0123456789"))) = true then _ else _
        refine ifNot (fun h => ?_) fun h => ?_
        · refine no fun o => ?_
          have m : c' ∈ figs x := by rw [← ef]; exact List.mem_of_getElem? hc
          exact of_decide_eq_false h (mem_figs.mpr (o.2.2.1 c' m))
        · have h := mem_figs.mp (of_decide_eq_true h)
          refine hN _ ⟨⟨_, rfl⟩, fun y hy => ?_⟩
          rw [List.take_add_one, hc] at hy
          rcases List.mem_append.mp hy with hy | hy
          · exact ha y hy
          · have e : y = c' := by simpa using hy
            rw [e]; exact h
      · obtain ⟨⟨s2, rfl⟩, ha⟩ := h
        rw [List.take_length] at ha
        obtain ⟨c0, r, ec⟩ : ∃ c0 r, tl f = c0 :: r := by
          cases e : tl f with
          | nil => exact absurd e fne
          | cons a r => exact ⟨a, r, rfl⟩
        have a0 : atI f.cps.toList 0 = some c0 := by
          rw [at_zero f.cps.toList (by show 0 < (tl f).length; rw [ec]; simp)]
          show (tl f)[0]? = _
          rw [ec]; rfl
        have t6 : ¬ (c0 = 48 ∧ x ≠ Str.ofString "0") → t_read_number_6 (endsOf κ ε) [.fz (.str x), .fz (.str f), s2] := by
          intro h
          have okx : OkF x := by
            refine ⟨?_, ?_, ?_, ?_⟩
            · rw [← ef, ec]; simp
            · rw [← ef, ← len_tl]; omega
            · rw [← ef]; exact ha
            · rintro ⟨y1, y2⟩
              rw [← ef, ec] at y1
              have y1 : c0 = 48 := by simpa using y1
              exact h ⟨y1, fun y => y2 (by rw [y, nought])⟩
          obtain ⟨n, hn⟩ : ∃ n, valS x = some n := ⟨_, if_pos okx⟩
          obtain ⟨v1, v2⟩ := int_val hn
          exact ⟨by omega, onS_some v1 ⟨rfl, kk n hn⟩⟩
        refine ⟨sz f lf, onS_some a0 ⟨⟨?_, shpS (by decide +kernel)⟩, ifS (fun y => ?_) fun y => ?_⟩⟩
        · have m := ha c0 (by rw [ec]; simp)
          exact shpS (Asc.one (by omega)).ok
        · have y : c0 = 48 := one_inj.mp (y.trans nought)
          refine ⟨⟨shpS ok, shpS (by decide +kernel)⟩, ifSne (fun w => ?_) fun w => ?_⟩
          · refine no fun o => o.2.2.2 ⟨by rw [← ef, ec, y]; rfl, fun q => w (ext_tl (by rw [q, nought]))⟩
          · exact t6 fun q => q.2 w
        · exact t6 fun q => y (by rw [q.1]; exact nought.symm)
    show t_read_number_2 (endsOf κ ε) [.fz (.str x), .fz (.str x), .un]
    show if Txt.startswith x (Str.ofString "-") = true then _ else _
    rw [minus, starts_one]
    refine ifd (fun h => ?_) fun h => ?_
    · refine ⟨sz x hl, ?_⟩
      refine t3 _ ?_ (Nat.le_trans (cutS_length x _ _) hl) (cut_ok ok _ _)
      rw [tl_rest]
      unfold figs
      rw [if_pos h]
    · refine t3 x ?_ hl ok
      unfold figs
      rw [if_neg h]
  | _ => exact kn rfl
end Py
namespace Py
open PySem PySem.Spec PyProof.Rows L2 DL Txp TL
theorem log_lt {i : Int} {k : Nat} (h : i.natAbs < 2 ^ k) (hk : 0 < k) : i.natAbs.log2 < k := by
  by_cases z : i.natAbs = 0
  · rw [z]; simpa using hk
  · exact (Nat.log2_lt z).mpr h
inductive S_show_number : List Dat → (Rv → Prop) → (Str → Prop) → Prop
  | mk {κ : Rv → Prop} {ε : Str → Prop} (i : Int) (h : i.natAbs < 2 ^ 1900) (k : κ (.v (.str (toString i)))) : S_show_number [.int i] κ ε
theorem sem_show_number : ∀ ds κ ε, S_show_number ds κ ε → d_show_number (endsOf κ ε) (entry ms_show_number 1 ds) := by
  intro ds κ ε h
  obtain ⟨i, h, k⟩ := h
  exact ⟨Nat.lt_of_lt_of_le (log_lt h (by decide)) (by decide), rfl, k⟩
end Py
namespace Py
open PySem PySem.Spec PyProof.Rows L2 DL Txp TL
inductive S_L_value : List Dat → (Rv → Prop) → (Str → Prop) → Prop
  | mk {κ : Rv → Prop} {ε : Str → Prop} (d : Dat) (hd : ∀ x, d = .str x → x.length ≤ 100000 ∧ PyData.strOk x = true) (k : κ (.v (optI (valD d)))) : S_L_value [d] κ ε
theorem L_value_go {d : Dat} {o : Option Int} {κ : Rv → Prop} {ε : Str → Prop} (hd : ∀ x, d = .str x → x.length ≤ 100000 ∧ PyData.strOk x = true) (hv : valD d = o) (k : κ (.v (optI o))) : S_L_value [d] κ ε := .mk d hd (by rw [hv]; exact k)
theorem sem_L_value : ∀ ds κ ε, S_L_value ds κ ε → d_L_value (endsOf κ ε) (entry ms_L_value 4 ds) := by
  intro ds κ ε h
  obtain ⟨d, hd, k⟩ := h
  cases d with
  | str x =>
    obtain ⟨hl, ok⟩ := hd x rfl
    have k : κ (.v (optI (valS x))) := k
    have sz : ∀ y : Str, y.length ≤ 100000 → y.length ≤ sizeLine := fun y h => Nat.le_trans h (by decide)
    have no : ¬ OkF x → true = true ∧ κ (.v .non) := fun h => by
      have e : valS x = none := if_neg h
      rw [e] at k
      exact ⟨rfl, k⟩
    have t3 : ∀ f : Str, tl f = figs x → f.length ≤ 100000 → PyData.strOk f = true → (x = f ↔ ¬ (tl x)[0]? = some 45) → t_L_value_3 (endsOf κ ε) [.fz (.str x), .fz (.str f), .un, .un] := by
      intro f ef lf okf xf
      refine ⟨sz f lf, ?_⟩
      refine ifd (fun c => ?_) fun c => ?_
      · have c : (f.length : Int) < 1 := c
        refine no fun o => ?_
        have := o.1
        rw [← ef, ← len_tl] at this
        omega
      have c1 : ¬ (f.length : Int) < 1 := c
      refine ⟨sz f lf, ?_⟩
      refine ifd (fun c => ?_) fun c => ?_
      · have c : (f.length : Int) > 60 := c
        refine no fun o => ?_
        have := o.2.1
        rw [← ef, ← len_tl] at this
        omega
      have c2 : ¬ (f.length : Int) > 60 := c
      show t_L_value_5 (endsOf κ ε) [.fz (.str x), .fz (.str f), .fz (.int 0), .un]
      refine for_map (f := fun c : Nat => Dat.str ⟨#[c]⟩) (xs := tl f) (fun i ρ => (∃ s3, ρ = [.fz (.str x), .fz (.str f), .fz (.int ((NumText.digitsVal ((tl f).take i) : Nat) : Int)), s3]) ∧ NumText.AllDigits ((tl f).take i)) ⟨⟨_, rfl⟩, by simp [NumText.AllDigits]⟩ (fun i c' ρ N hc h hN => ?_) (fun ρ h => ?_)
      · obtain ⟨⟨s3, rfl⟩, ha⟩ := h
        have hi : i < (tl f).length := by
          by_cases y : i < (tl f).length
          · exact y
          · rw [List.getElem?_eq_none (by omega)] at hc; exact nomatch hc
        have tk : (tl f).take (i + 1) = (tl f).take i ++ [c'] := by rw [List.take_add_one, hc]; rfl
        have bd : NumText.digitsVal ((tl f).take i) < 10 ^ 60 := by
          have h1 := dv_lt _ ha
          rw [List.length_take] at h1
          refine Nat.lt_of_lt_of_le h1 (Nat.pow_le_pow_right (by decide) ?_)
          rw [← len_tl]
          omega
        refine ifd (fun h => ?_) fun h => ?_
        · have h : Txt.find (Str.ofString "0123456789") ⟨#[c']⟩ < 0 := h
          refine no fun o => ?_
          have m : c' ∈ figs x := by rw [← ef]; exact List.mem_of_getElem? hc
          rw [find_fig (o.2.2.1 c' m)] at h
          have := o.2.2.1 c' m
          omega
        · have h : ¬ Txt.find (Str.ofString "0123456789") ⟨#[c']⟩ < 0 := h
          have dg : 48 ≤ c' ∧ c' ≤ 57 := Decidable.byContradiction fun z => h (by rw [find_no z]; decide)
          have hb : Bt 200 ((NumText.digitsVal ((tl f).take i) : Nat) : Int) := by rw [Bt.def]; omega
          refine ⟨mulok (Bt.lit (k := 4) (by decide)) hb rfl, ?_⟩
          refine hN _ ⟨⟨.fz (.str ⟨#[c']⟩), ?_⟩, ?_⟩
          · have e : (10 : Int) * ((NumText.digitsVal ((tl f).take i) : Nat) : Int) + Txt.find (Str.ofString "0123456789") ⟨#[c']⟩ = ((NumText.digitsVal ((tl f).take (i + 1)) : Nat) : Int) := by
              rw [find_fig dg, tk, dv_snoc]
              omega
            rw [← e]; rfl
          · rw [tk]
            intro y hy
            rcases List.mem_append.mp hy with hy | hy
            · exact ha y hy
            · have e : y = c' := by simpa using hy
              rw [e]; exact dg
      · obtain ⟨⟨s3, rfl⟩, ha⟩ := h
        rw [List.take_length] at *
        obtain ⟨c0, r, ec⟩ : ∃ c0 r, tl f = c0 :: r := by
          cases e : tl f with
          | nil => rw [len_tl, e] at c1; exact absurd (by decide) c1
          | cons a r => exact ⟨a, r, rfl⟩
        have a0 : atI f.cps.toList 0 = some c0 := by
          rw [at_zero f.cps.toList (by show 0 < (tl f).length; rw [ec]; simp)]
          show (tl f)[0]? = _
          rw [ec]; rfl
        have fin : ¬ ((tl f)[0]? = some 48 ∧ tl x ≠ [48]) → t_L_value_7 (endsOf κ ε) [.fz (.str x), .fz (.str f), .fz (.int ((NumText.digitsVal (tl f) : Nat) : Int)), s3] := by
          intro h
          have okx : OkF x := by
            refine ⟨?_, ?_, ?_, ?_⟩
            · rw [← ef, ec]; simp
            · rw [← ef, ← len_tl]; omega
            · rw [← ef]; exact ha
            · rw [← ef]; exact h
          have ev : valS x = some _ := if_pos okx
          rw [ev, ← ef] at k
          refine ⟨⟨shpS ok, shpS okf⟩, ifSne (fun w => ?_) fun w => ?_⟩
          · have sg : (tl x)[0]? = some 45 := Decidable.byContradiction fun z => w (xf.mpr z)
            rw [if_pos sg] at k
            exact ⟨rfl, k⟩
          · rw [if_neg (xf.mp w)] at k
            exact k
        refine ⟨sz f lf, onS_some a0 ⟨⟨?_, shpS (by decide +kernel)⟩, ifS (fun y => ?_) fun y => ?_⟩⟩
        · have m := ha c0 (by rw [ec]; simp)
          exact shpS (Asc.one (by omega)).ok
        · have y : c0 = 48 := one_inj.mp (y.trans nought)
          have y0 : (tl f)[0]? = some 48 := by rw [ec, y]; rfl
          refine ⟨sz f lf, ?_⟩
          refine ifd (fun w => ?_) fun w => ?_
          · have w : (f.length : Int) > 1 := w
            refine no fun o => o.2.2.2 ⟨by rw [← ef]; exact y0, fun q => ?_⟩
            by_cases sg : (tl x)[0]? = some 45
            · rw [q] at sg; simp at sg
            · have := xf.mpr sg
              rw [← this, len_tl, q] at w
              exact absurd w (by decide)
          · have w : ¬ (f.length : Int) > 1 := w
            refine ⟨⟨shpS ok, shpS okf⟩, ifSne (fun v => ?_) fun v => ?_⟩
            · refine no fun o => o.2.2.2 ⟨by rw [← ef]; exact y0, fun q => v (xf.mpr fun sg => ?_)⟩
              rw [q] at sg; simp at sg
            · refine fin fun q => q.2 ?_
              rw [v, ec, y]
              have : r.length = 0 := by
                have h1 := len_tl f
                rw [ec, List.length_cons] at h1
                omega
              rw [List.length_eq_zero_iff.mp this]
        · exact fin fun q => y (by rw [ec] at q; have := q.1; simp at this; rw [this]; exact nought.symm)
    show t_L_value_2 (endsOf κ ε) [.fz (.str x), .fz (.str x), .un, .un]
    refine ⟨sz x hl, ⟨shpS (cut_ok ok _ _), shpS (by decide +kernel)⟩, ifS (fun h => ?_) fun h => ?_⟩
    · have h := (head_minus x).mp h
      refine ⟨sz x hl, ?_⟩
      refine t3 _ ?_ (Nat.le_trans (cutS_length x _ _) hl) (cut_ok ok _ _) ⟨fun e => ?_, fun z => absurd h z⟩
      · rw [tl_rest]
        unfold figs
        rw [if_pos h]
      · have e := congrArg (fun y => (tl y).length) e
        have e : (tl x).length = (tl (cutS x (some 1) none)).length := e
        rw [tl_rest, List.length_drop] at e
        cases q : tl x with
        | nil => rw [q] at h; simp at h
        | cons a r => rw [q, List.length_cons] at e; omega
    · have h : ¬ (tl x)[0]? = some 45 := fun z => h ((head_minus x).mpr z)
      refine t3 x ?_ hl ok ⟨fun _ => h, fun _ => rfl⟩
      unfold figs
      rw [if_neg h]
  | _ => exact ⟨rfl, k⟩
end Py
namespace Py
open PySem PySem.Spec PyProof.Rows L2 DL Txp TL
inductive S_L_sign : List Dat → (Rv → Prop) → (Str → Prop) → Prop
  | mk {κ : Rv → Prop} {ε : Str → Prop} (c : Int) (k : ∀ a, a < 128 → κ (.v (.str ⟨#[a]⟩))) : S_L_sign [.int c] κ ε
theorem sem_L_sign : ∀ ds κ ε, S_L_sign ds κ ε → d_L_sign (endsOf κ ε) (entry ms_L_sign 2 ds) := by
  intro ds κ ε h
  obtain ⟨c, k⟩ := h
  refine ⟨by decide +kernel, ?_⟩
  have fin : ∀ z : Str, tl z = List.range' 32 95 ++ [10] ∨ ((tl z).length = 96 ∧ (tl z).all (· < 128) = true) → t_L_sign_2 (endsOf κ ε) [.fz (.int c), .fz (.str z)] := by
    intro z hz
    have hz : (tl z).length = 96 ∧ (tl z).all (· < 128) = true := by
      rcases hz with h | h
      · rw [h]; decide +kernel
      · exact h
    obtain ⟨a, ma, ea⟩ := at_emod hz.1 (by decide) c
    have la : a < 128 := of_decide_eq_true (List.all_eq_true.mp hz.2 a ma)
    refine ⟨by walk_at "side", ?_⟩
    exact ⟨Nat.le_trans (show z.length ≤ 96 by rw [len_tl, hz.1]; exact Nat.le_refl _) (by decide), onS_some ea ⟨rfl, k a la⟩⟩
  exact fin _ (.inr ⟨by decide +kernel, by decide +kernel⟩)
end Py
namespace Py
open PySem PySem.Spec PyProof.Rows L2 DL
def cQ (ns : List Int) (k : Int) : Int := if k < ns.length then ns.getD k.toNat 0 else 7 * k * k + 3 * k + 1
theorem cQ_bt {ns : List Int} (hs : Scr ns) {k : Int} (h0 : 0 ≤ k) (h1 : k < 1000) : Bt 1048577 (cQ ns k) := by
  unfold cQ
  split
  · rename_i h
    rw [List.getD_eq_getElem?_getD, List.getElem?_eq_getElem (by omega)]
    exact hs.bt _ (List.getElem_mem (by omega))
  · have b : Bt 10 k := by rw [Bt.def]; omega
    have c : Bt 3 7 := Bt.lit (by decide)
    have d : Bt 2 3 := Bt.lit (by decide)
    have e : Bt 1 1 := Bt.lit (by decide)
    exact ((((c.mul b).mul b).add (d.mul b)).add e).mono (by decide)
inductive S_L_cell : List Dat → (Rv → Prop) → (Str → Prop) → Prop
  | mk {κ : Rv → Prop} {ε : Str → Prop} (ns : List Int) (k : Int) (hs : Scr ns) (h0 : 0 ≤ k) (h1 : k < 1000) (q : κ (.v (.int (cQ ns k)))) : S_L_cell [.lst (ns.map Dat.int), .int k] κ ε
theorem sem_L_cell : ∀ ds κ ε, S_L_cell ds κ ε → d_L_cell (endsOf κ ε) (entry ms_L_cell 2 ds) := by
  intro ds κ ε h
  obtain ⟨ns, k, hs, h0, h1, q⟩ := h
  unfold cQ at q
  refine ifd (fun hl => ?_) (fun hl => ?_)
  · have hl : k < ns.length := by rw [List.length_map] at hl; omega
    rw [if_pos hl, List.getD_eq_getElem?_getD, List.getElem?_eq_getElem (by omega)] at q
    exact onS_some (at_mapI (j := k.toNat) (by omega) (List.getElem?_eq_getElem (by omega))) ⟨rfl, q⟩
  · have hl : ¬ k < ns.length := by rw [List.length_map] at hl; omega
    rw [if_neg hl] at q
    have b : Bt 10 k := by rw [Bt.def]; omega
    refine ⟨mulok (Bt.lit (k := 3) (by decide)) b rfl, mulok ((Bt.lit (k := 3) (i := 7) (by decide)).mul b) b rfl, mulok (Bt.lit (k := 2) (by decide)) b rfl, ?_⟩
    exact ⟨rfl, q⟩
end Py
namespace Py
open PySem PySem.Spec PyProof.Rows L2 DL Txp TL
inductive S_L_number : List Dat → (Rv → Prop) → (Str → Prop) → Prop
  | mk {κ : Rv → Prop} {ε : Str → Prop} (c : Int) (hc : Bt 1100000 c) (k : ∀ z : Int, z.natAbs < 10 ^ 60 → κ (.v (.int z))) : S_L_number [.int c] κ ε
theorem sem_L_number : ∀ ds κ ε, S_L_number ds κ ε → d_L_number (endsOf κ ε) (entry ms_L_number 1 ds) := by
  intro ds κ ε h
  obtain ⟨c, hc, k⟩ := h
  show d_L_number (endsOf κ ε) [.fz (.int c)]
  refine ⟨by walk_at "side", ?_⟩
  refine ifd (fun _ => ?_) fun _ => ?_
  · walk_at "go"
    exact k _ (by omega)
  · walk_at "go"
    refine k _ ?_
    have e1 : (10 : Int) ^ Int.toNat 60 = 10 ^ 60 := rfl
    rw [e1]
    omega
end Py
namespace Py
open PySem PySem.Spec PyProof.Rows L2 DL Txp TL
inductive S_read_point : List Dat → (Rv → Prop) → (Str → Prop) → Prop
  | mk {κ : Rv → Prop} {ε : Str → Prop} (d : Dat) (hd : ∀ x, d = .str x → x.length ≤ 100000 ∧ PyData.strOk x = true) (kn : spD d = none → ε "NoText") (kk : ∀ p, spD d = some p → κ (.v (.tup [.int p.1, .int p.2]))) : S_read_point [d] κ ε
theorem sem_read_point : ∀ ds κ ε, S_read_point ds κ ε → d_read_point S_read_number (endsOf κ ε) (entry ms_read_point 2 ds) := by
  intro ds κ ε h
  obtain ⟨d, hd, kn, kk⟩ := h
  cases d with
  | str x =>
    have ok := hd x rfl
    have kn : ptS x = none → ε "NoText" := kn
    have kk : ∀ p, ptS x = some p → κ (.v (.tup [.int p.1, .int p.2])) := kk
    refine ⟨by decide +kernel, Nat.le_trans (Nat.add_le_add_right ok.1 2) (by decide), ?_⟩
    show t_read_point_2 S_read_number (endsOf κ ε) [.fz (.str x), .ow ((Txt.split x (Str.ofString ",")).map Dat.str)]
    rw [comma]
    rcases split_comma x with ⟨p, q, e, ep, eq, ex⟩ | ⟨ne, ex⟩
    · rw [e]
      refine ⟨⟨rfl, rfl⟩, ?_⟩
      show t_read_point_3 S_read_number (endsOf κ ε) [.fz (.str x), .ow [.str p, .str q]]
      have okp := bef_ok ok
      have okq := aft_ok ok
      rw [← ep] at okp
      rw [← eq] at okq
      refine onS_some rfl ?_
      refine .mk _ (fun y e => by injection e with e; rw [← e]; exact okp) (fun z => kn ?_) fun a ha => ?_
      · have z : valS p = none := z
        rw [ex, z]; rfl
      refine onS_some rfl ?_
      refine .mk _ (fun y e => by injection e with e; rw [← e]; exact okq) (fun z => kn ?_) fun b hb => ?_
      · have z : valS q = none := z
        have ha : valS p = some a := ha
        rw [ex, z, ha]; rfl
      · have ha : valS p = some a := ha
        have hb : valS q = some b := hb
        exact ⟨rfl, rfl, kk (a, b) (by rw [ex, ha, hb]; rfl)⟩
    · refine ⟨⟨rfl, rfl⟩, ?_⟩
      refine ifNe (fun _ => kn ex) fun z => absurd z ?_
      rw [List.length_map]
      omega
  | _ => exact kn rfl
end Py
namespace Py
open PySem PySem.Spec PyProof.Rows L2 DL Txp TL
def shP (p : Int × Int) : Str := Str.ofString (toString p.1) ++ ⟨#[44]⟩ ++ Str.ofString (toString p.2)
theorem asc_shP {p : Int × Int} (h1 : p.1.natAbs < 10 ^ 60) (h2 : p.2.natAbs < 10 ^ 60) : Asc 123 (shP p) :=
  (((asc_int (by decide) h1).app (Asc.one (by decide))).app (asc_int (by decide) h2)).mono (by decide)
inductive S_show_point : List Dat → (Rv → Prop) → (Str → Prop) → Prop
  | mk {κ : Rv → Prop} {ε : Str → Prop} (p : Int × Int) (h1 : p.1.natAbs < 10 ^ 60) (h2 : p.2.natAbs < 10 ^ 60) (k : κ (.v (.str (shP p)))) : S_show_point [.tup [.int p.1, .int p.2]] κ ε
theorem p60 : (10 : Nat) ^ 60 < 2 ^ 1900 := by decide
theorem sem_show_point : ∀ ds κ ε, S_show_point ds κ ε → d_show_point S_show_number (endsOf κ ε) (entry ms_show_point 1 ds) := by
  intro ds κ ε h
  obtain ⟨p, h1, h2, k⟩ := h
  have l1 := (asc_int (k := 60) (by decide) h1).len
  have l2 := (asc_int (k := 60) (by decide) h2).len
  refine onS_some rfl (.mk _ (Nat.lt_trans h1 p60) ?_)
  refine ⟨Nat.le_trans (Nat.add_le_add_right l1 _) (by decide +kernel), ?_⟩
  refine onS_some rfl (.mk _ (Nat.lt_trans h2 p60) ?_)
  refine ⟨?_, rfl, ?_⟩
  · rw [comma, Str.length_append]
    exact Nat.le_trans (Nat.add_le_add (Nat.add_le_add_right l1 _) l2) (by decide)
  · rw [comma]; exact k
end Py
namespace Py
open PySem PySem.Spec PyProof.Rows L2 DL Txp TL
inductive S_read_points : List Dat → (Rv → Prop) → (Str → Prop) → Prop
  | mk {κ : Rv → Prop} {ε : Str → Prop} (d : Dat) (hd : ∀ x, d = .str x → x.length ≤ 100000 ∧ PyData.strOk x = true) (kn : psD d = none → ε "NoText") (kk : ∀ ps, psD d = some ps → κ (.n (ps.map pt))) : S_read_points [d] κ ε
theorem sem_read_points : ∀ ds κ ε, S_read_points ds κ ε → d_read_points S_read_point (endsOf κ ε) (entry ms_read_points 3 ds) := by
  intro ds κ ε h
  obtain ⟨d, hd, kn, kk⟩ := h
  cases d with
  | str x =>
    have ok := hd x rfl
    have kn : psS x = none → ε "NoText" := kn
    have kk : ∀ ps, psS x = some ps → κ (.n (ps.map pt)) := kk
    refine ⟨by decide +kernel, Nat.le_trans (Nat.add_le_add_right ok.1 2) (by decide), ?_⟩
    have wok : ∀ p ∈ Txt.split x (Str.ofString " "), p.length ≤ 100000 ∧ PyData.strOk p = true := fun p hp => word_ok ok hp
    unfold psS at kn kk
    show t_read_points_2 S_read_point (endsOf κ ε) [.fz (.str x), .ow ((Txt.split x (Str.ofString " ")).map Dat.str), .un]
    generalize Txt.split x (Str.ofString " ") = l at *
    refine ifd (fun c => ?_) fun c => ?_
    · have c : ((l.map Dat.str).length : Int) > 60 := c
      rw [List.length_map] at c
      exact kn (if_neg (by omega))
    have c : ¬ ((l.map Dat.str).length : Int) > 60 := c
    rw [List.length_map] at c
    rw [if_pos (by omega)] at kn kk
    show t_read_points_3 S_read_point (endsOf κ ε) [.fz (.str x), .ow (l.map Dat.str), .un]
    refine ⟨rfl, ?_⟩
    show lcLX (gN 2) tYesD (b_read_points_1 S_read_point) [.fz (.str x), .ow (l.map Dat.str), .un] (fun r => retOk r = true ∧ κ r) ε [] (l.map Dat.str)
    refine lcX_ind (fun i acc => ∃ ps, allP (l.take i) = some ps ∧ acc = ps.map pt ∧ ps.length = i) ⟨[], rfl, rfl, rfl⟩ (fun i d acc N hd ha hn => ?_) fun acc ha => ?_
    · obtain ⟨ps, e, rfl, lp⟩ := ha
      rw [List.getElem?_map] at hd
      obtain ⟨w, hw, rfl⟩ := Option.map_eq_some_iff.mp hd
      have mw := List.mem_of_getElem? hw
      have li : i < l.length := by
        by_cases y : i < l.length
        · exact y
        · rw [List.getElem?_eq_none (by omega)] at hw; exact nomatch hw
      refine .mk _ (fun y e => by injection e with e; rw [← e]; exact wok w mw) (fun z => kn (allP_bad mw z)) fun p hp => ?_
      have hp : ptS w = some p := hp
      refine ⟨by rw [List.length_map, lp]; exact Nat.lt_of_lt_of_le (show i < 1000 by omega) (by decide), hn _ ⟨ps ++ [p], allP_step e hw hp, ?_, ?_⟩⟩
      · rw [List.map_append]; rfl
      · rw [List.length_append, lp]; rfl
    · obtain ⟨ps, e, rfl, lp⟩ := ha
      rw [List.length_map, List.take_length] at e
      exact ⟨rfl, kk ps e⟩
  | _ => exact kn rfl
end Py
namespace Py
open PySem PySem.Spec PyProof.Rows L2 DL Txp TL
def shPs (ps : List Pt) : Str := Txt.join (Str.ofString " ") (ps.map shP)
def P60 (p : Pt) : Prop := p.1.natAbs < 10 ^ 60 ∧ p.2.natAbs < 10 ^ 60
theorem asc_shPs {ps : List Pt} (h : ∀ p ∈ ps, P60 p) : Asc (124 * ps.length) (shPs ps) := by
  have := asc_join (n := 123) (ps.map shP) fun x hx => by
    obtain ⟨p, hp, rfl⟩ := List.mem_map.mp hx
    exact asc_shP (h p hp).1 (h p hp).2
  rw [List.length_map] at this
  exact this
theorem sum_le {n : Nat} : ∀ (l : List Nat), (∀ x ∈ l, x ≤ n) → l.sum ≤ n * l.length
  | [], _ => Nat.zero_le _
  | a :: l, h => by
    have := sum_le l fun x hx => h x (by simp [hx])
    have := h a (by simp)
    rw [List.sum_cons, List.length_cons, Nat.mul_add]
    omega
theorem join_side {ps : List Pt} (hl : ps.length ≤ 100) (h : ∀ p ∈ ps, P60 p) : ((ps.map shP).map (·.length)).sum + (ps.map shP).length * (Str.ofString " ").length ≤ 16777216 := by
  have e : (Str.ofString " ").length = 1 := by decide +kernel
  have := sum_le (n := 123) ((ps.map shP).map (·.length)) fun x hx => by
    rw [List.map_map] at hx
    obtain ⟨p, hp, rfl⟩ := List.mem_map.mp hx
    exact (asc_shP (h p hp).1 (h p hp).2).len
  rw [List.length_map, List.length_map] at this
  rw [e, List.length_map]
  omega
inductive S_show_points : List Dat → (Rv → Prop) → (Str → Prop) → Prop
  | mk {κ : Rv → Prop} {ε : Str → Prop} (ps : List Pt) (hl : ps.length ≤ 100) (hp : ∀ p ∈ ps, P60 p) (k : κ (.v (.str (shPs ps)))) : S_show_points [.lst (ps.map pt)] κ ε
theorem sem_show_points : ∀ ds κ ε, S_show_points ds κ ε → d_show_points S_show_point (endsOf κ ε) (entry ms_show_points 2 ds) := by
  intro ds κ ε h
  obtain ⟨ps, hl, hp, k⟩ := h
  show d_show_points S_show_point (endsOf κ ε) [.br (ps.map pt), .un]
  refine ⟨rfl, ?_⟩
  refine lc_map (xs := ps) (f := pt) (h := fun p => Dat.str (shP p)) (by omega) (fun p N hx hN => ?_) ?_
  · exact .mk p (hp p hx).1 (hp p hx).2 hN
  · have e : strsD (ps.map fun p => Dat.str (shP p)) = some (ps.map shP) := by
      have := strsD_map (ps.map shP)
      rw [List.map_map] at this
      exact this
    exact onS_some e ⟨join_side hl hp, rfl, k⟩
end Py
-- plain: DLzi DLzj DLzb DLzk DLzl DLzm PNum PEq PSelf PTxt PTxt2 PTxt3
namespace Py
open PySem PySem.Spec PyProof.Rows L2 DL Txp TL
def S_law : Fsp := fun ds κ _ => ∃ ns : List Int, ds = [.lst (ns.map Dat.int)] ∧ Scr ns ∧ κ (.v (.bl true))
theorem S_law_of (ns : List Int) (κ : Rv → Prop) (ε : Str → Prop) (h : Scr ns) (k : κ (.v (.bl true))) : S_law [.lst (ns.map Dat.int)] κ ε := ⟨ns, rfl, h, k⟩
inductive S_L_points : List Dat → (Rv → Prop) → (Str → Prop) → Prop
  | mk {κ : Rv → Prop} {ε : Str → Prop} (ns : List Int) (hs : Scr ns) (k : ∀ ps : List Pt, 1 ≤ ps.length → ps.length ≤ 61 → (∀ p ∈ ps, P60 p) → κ (.n (ps.map pt))) : S_L_points [.lst (ns.map Dat.int)] κ ε
theorem sem_L_points : ∀ ds κ ε, S_L_points ds κ ε → d_L_points S_L_number S_L_cell (endsOf κ ε) (entry ms_L_points 4 ds) := by
  intro ds κ ε h
  obtain ⟨ns, hs, k⟩ := h
  show d_L_points S_L_number S_L_cell (endsOf κ ε) [.br (ns.map Dat.int), .un, .un, .un]
  refine ⟨rfl, ?_⟩
  show t_L_points_1 S_L_number S_L_cell (endsOf κ ε) [.br (ns.map Dat.int), .ow [], .un, .un]
  have hl := hs.len'
  walk_at "rng3"
  have hn : ∀ M : Int, 4 ≤ M → M ≤ 62 → 0 < rN 2 M 2 ∧ rN 2 M 2 ≤ 30 := fun M h h' => ⟨by unfold rN; rw [if_pos (by omega)]; omega, rN_le (by decide) (by omega)⟩
  have hM := hn (if (if (62 : Int) < ((ns.map Dat.int).length : Int) then (62 : Int) else ((ns.map Dat.int).length : Int)) > 4 then (if (62 : Int) < ((ns.map Dat.int).length : Int) then (62 : Int) else ((ns.map Dat.int).length : Int)) else 4) (by walk_at "ite") (by walk_at "ite")
  refine for_rngC (fun i ρ => ∃ (ps : List Pt) (ds : List Dat) (s2 : Sl), ρ = [.br (ns.map Dat.int), .ow ds, s2, .un] ∧ ds = ps.map pt ∧ ps.length = i ∧ ∀ p ∈ ps, P60 p) ⟨[], _, _, rfl, rfl, rfl, by simp⟩ (fun i ρ N hi h hN => ?_) (fun ρ h => ?_)
  · obtain ⟨ps, ds, s2, rfl, rfl, hp, hb⟩ := h
    have hi := Nat.lt_of_lt_of_le hi hM.2
    refine .mk ns _ hs (by omega) (by omega) ?_
    refine .mk _ ((cQ_bt hs (by omega) (by omega)).mono (by decide)) fun z1 h1 => ?_
    refine .mk ns _ hs (by omega) (by omega) ?_
    refine .mk _ ((cQ_bt hs (by omega) (by omega)).mono (by decide)) fun z2 h2 => ?_
    exact ⟨rfl, szm (by omega), hN _ ⟨ps ++ [(z1, z2)], _, _, rfl, map_snoc pt ps (z1, z2), by rw [List.length_append, hp]; rfl, all_snoc hb ⟨h1, h2⟩⟩⟩
  · obtain ⟨ps, ds, s2, rfl, rfl, hp, hb⟩ := h
    have h1 := hM.1
    have h2 := hM.2
    have l1 : 1 ≤ ps.length := by omega
    have l2 : ps.length ≤ 61 := by omega
    clear hp
    refine .mk ns _ hs (by decide) (by decide) ?_
    refine ⟨by walk_at "side", ?_⟩
    show t_L_points_3 S_L_number S_L_cell (endsOf κ ε) [.br (ns.map Dat.int), .ow (ps.map pt), s2, .fz (.int (cQ ns 0 % 12))]
    generalize hw : cQ ns 0 % 12 = w
    refine ifd (fun c => ?_) fun c => ?_
    · have c : w < 2 := c
      have w0 : 0 ≤ w := by omega
      have e62 : (2 : Int) ^ 62 = 4611686018427387904 := by decide
      refine ⟨⟨by omega, by omega⟩, ?_⟩
      refine lc_rel' (xs := List.range ((60 : Int) + w).toNat) rfl (f := fun (j : Nat) => Dat.int (0 + (j : Int))) (h := pt) (fun _ p => P60 p) (by rw [List.length_range]; omega) (fun j N hj hN => ?_) (fun ys hy => ?_)
      · refine ⟨by show (0 : Int) < ((ps.map pt).length : Int); rw [List.length_map]; omega, ?_⟩
        obtain ⟨d, md, ed⟩ := at_emod (L := ps.map pt) rfl (by rw [List.length_map]; omega) (0 + (j : Int))
        obtain ⟨p, hp, rfl⟩ := List.mem_map.mp md
        exact onS_some ed (hN p (hb p hp))
      · have ly := hy.1
        rw [List.length_range] at ly
        exact k ys (by omega) (by omega) (hy.mem fun x _ y r => r)
    · exact k ps l1 l2 hb
inductive S_L_changed : List Dat → (Rv → Prop) → (Str → Prop) → Prop
  | mk {κ : Rv → Prop} {ε : Str → Prop} (x : Str) (c : Int) (hx : Asc 8000 x) (h0 : 0 < x.length) (k : ∀ y, Asc 20000 y → κ (.v (.str y))) : S_L_changed [.str x, .int c] κ ε
theorem sem_L_changed : ∀ ds κ ε, S_L_changed ds κ ε → d_L_changed S_L_sign (endsOf κ ε) (entry ms_L_changed 5 ds) := by
  intro ds κ ε h
  obtain ⟨x, c, hx, h0, k⟩ := h
  show d_L_changed S_L_sign (endsOf κ ε) [.fz (.str x), .fz (.int c), .un, .un, .un]
  refine ⟨by walk_at "side", ?_⟩
  refine ⟨by walk_at "side", ?_⟩
  show t_L_changed_2 S_L_sign (endsOf κ ε) [.fz (.str x), .fz (.int (c / 12)), .fz (.int (c % 12)), .un, .un]
  generalize c / 12 = g at *
  generalize c % 12 = way
  refine ⟨hx.sz (by decide), show (0 : Int) < (x.length : Int) by omega, ?_⟩
  show t_L_changed_3 S_L_sign (endsOf κ ε) [.fz (.str x), .fz (.int g), .fz (.int way), .fz (.int (g % (x.length : Int))), .un]
  generalize g % (x.length : Int) = pl
  have xl := hx.len
  refine ⟨hx.sz (by decide), divp (k := 100) (by omega) (Bt.nat (Nat.lt_of_le_of_lt xl (by decide))) rfl, ?_⟩
  refine .mk _ fun a ha => ?_
  have a1 := hx.cut none (some pl)
  have a2 := Asc.one ha
  have a3 := hx.cut (some pl) none
  have a4 := hx.cut (some (pl + 1)) none
  have ab : Asc 1 (Str.ofString " ") := ⟨by decide +kernel, by decide +kernel⟩
  have sz := hx.sz (by decide)
  have ad : ∀ {m n : Nat} {x y : Str}, Asc m x → Asc n y → m + n ≤ 20000 → x.length + y.length ≤ sizeLine := fun {m n x y} h1 h2 h => by
    have := h1.len
    have := h2.len
    exact Nat.le_trans (show x.length + y.length ≤ 20000 by omega) (by decide)
  refine ⟨⟨rfl, rfl⟩, ifEq (fun _ => ?_) fun _ => ?_⟩
  · exact ⟨sz, ad a1 a2 (by decide), sz, ad (a1.app a2) a3 (by decide), rfl, k _ (((a1.app a2).app a3).mono (by decide))⟩
  refine ⟨⟨rfl, rfl⟩, ifEq (fun _ => ?_) fun _ => ?_⟩
  · exact ⟨sz, sz, ad a1 a4 (by decide), rfl, k _ ((a1.app a4).mono (by decide))⟩
  refine ⟨⟨rfl, rfl⟩, ifEq (fun _ => ?_) fun _ => ?_⟩
  · exact ⟨sz, ad a1 a2 (by decide), sz, ad (a1.app a2) a4 (by decide), rfl, k _ (((a1.app a2).app a4).mono (by decide))⟩
  refine ⟨⟨rfl, rfl⟩, ifEq (fun _ => ?_) fun _ => ?_⟩
  · have bb : Asc 2 (Str.ofString "  ") := ⟨by decide +kernel, by decide +kernel⟩
    have := hx.len
    have := bb.len
    exact ⟨by omega, rfl, k _ ((asc_rep1 hx bb).mono (by decide))⟩
  refine ⟨⟨rfl, rfl⟩, ifEq (fun _ => ?_) fun _ => ?_⟩
  · exact ⟨ad hx ab (by decide), rfl, k _ ((hx.app ab).mono (by decide))⟩
  refine ⟨⟨rfl, rfl⟩, ifEq (fun _ => ?_) fun _ => ?_⟩
  · exact ⟨ad ab hx (by decide), rfl, k _ ((ab.app hx).mono (by decide))⟩
  exact k x (hx.mono (by decide))
inductive S_L_spots : List Dat → (Rv → Prop) → (Str → Prop) → Prop
  | mk {κ : Rv → Prop} {ε : Str → Prop} (x : Str) (ok : x.length ≤ 100000 ∧ PyData.strOk x = true) (k : κ (optPs (psS x))) : S_L_spots [.str x] κ ε
theorem sem_L_spots : ∀ ds κ ε, S_L_spots ds κ ε → d_L_spots S_L_value (endsOf κ ε) (entry ms_L_spots 7 ds) := by
  intro ds κ ε h
  obtain ⟨x, ok, k⟩ := h
  show d_L_spots S_L_value (endsOf κ ε) [.fz (.str x), .un, .un, .un, .un, .un, .un]
  refine ⟨rfl, by decide +kernel, Nat.le_trans (Nat.add_le_add_right ok.1 2) (by decide), rfl, ?_⟩
  have wok : ∀ p ∈ Txt.split x (Str.ofString " "), p.length ≤ 100000 ∧ PyData.strOk p = true := fun p hp => word_ok ok hp
  have wl : (Txt.split x (Str.ofString " ")).length ≤ 100001 := by
    have := split_weight x (Str.ofString " ") (by decide +kernel)
    have := ok.1
    omega
  unfold psS at k
  generalize Txt.split x (Str.ofString " ") = l at *
  refine for_map (f := Dat.str) (xs := l) (fun i ρ => ∃ (ps : List Pt) (ds : List Dat) (s2 s3 s4 s5 s6 : Sl), ρ = [.fz (.str x), .ow ds, s2, s3, s4, s5, s6] ∧ ds = ps.map pt ∧ ps.length = i ∧ allP (l.take i) = some ps) ⟨[], _, _, _, _, _, _, rfl, rfl, rfl, rfl⟩ (fun i w ρ N hw h hN => ?_) (fun ρ h => ?_)
  · obtain ⟨ps, ds, s2, s3, s4, s5, s6, rfl, rfl, lp, e⟩ := h
    have mw := List.mem_of_getElem? hw
    have okw := wok w mw
    have li : i < l.length := by
      by_cases y : i < l.length
      · exact y
      · rw [List.getElem?_eq_none (by omega)] at hw; exact nomatch hw
    have bad : ptS w = none → κ (.v .non) := fun z => by
      rw [allP_bad mw z] at k
      split at k <;> exact k
    refine ⟨by decide +kernel, Nat.le_trans okw.1 (by decide), rfl, ?_⟩
    show sSeq (sAsg (dTup (aCons (dCall ms_L_value S_L_value (aCons (dVar 3) (aNil))) (aCons (dCall ms_L_value S_L_value (aCons (dVar 5) (aNil))) (aNil)))) (gN 6))
      (sSeq (sIf (tOrD (tVal (dEq (dVar 4) (dC (.str "")))) (tVal (dInF false (dC .non) (dVar 6))))
      (sRet (dC .non)) (sNil)) (sApp 1 (dVar 6))) _ [.fz (.str x), .ow (ps.map pt), .fz (.str w), .fz (.str (Txt.partition w (Str.ofString ",")).1), .fz (.str (Txt.partition w (Str.ofString ",")).2.1), .fz (.str (Txt.partition w (Str.ofString ",")).2.2), s6]
    rw [comma, part_comma]
    by_cases m : 44 ∈ tl w
    · simp only [if_pos m]
      have ex : ptS w = (valS (bef w)).bind fun a => (valS (aft w)).map fun b => (a, b) := if_pos m
      refine .mk _ (fun y e => by injection e with e; rw [← e]; exact bef_ok okw) ?_
      refine .mk _ (fun y e => by injection e with e; rw [← e]; exact aft_ok okw) ?_
      refine ⟨rfl, ?_⟩
      show sSeq (sIf (tOrD (tVal (dEq (dVar 4) (dC (.str "")))) (tVal (dInF false (dC .non) (dVar 6))))
      (sRet (dC .non)) (sNil)) (sApp 1 (dVar 6)) _ [.fz (.str x), .ow (ps.map pt), .fz (.str w), .fz (.str (bef w)), .fz (.str ⟨#[44]⟩), .fz (.str (aft w)), .fz (.tup [optI (valS (bef w)), optI (valS (aft w))])]
      generalize valS (bef w) = o1 at *
      generalize valS (aft w) = o2 at *
      refine ⟨⟨shpS (by decide +kernel), shpS (by decide +kernel)⟩, ?_⟩
      have big : (ps.map pt).length < sizeLine := by rw [List.length_map, lp]; exact Nat.lt_of_lt_of_le (show i < 200000 by omega) (by decide)
      cases o1 <;> cases o2 <;> first | exact ⟨rfl, rfl, rfl, bad ex⟩ | skip
      rename_i a b
      refine ⟨rfl, rfl, big, ?_⟩
      exact hN _ ⟨ps ++ [(a, b)], _, _, _, _, _, _, rfl, map_snoc pt ps (a, b), by rw [List.length_append, lp]; rfl, allP_step e hw ex⟩
    · simp only [if_neg m]
      have ex : ptS w = none := if_neg m
      refine .mk _ (fun y e => by injection e with e; rw [← e]; exact okw) ?_
      refine .mk _ (fun y e => by injection e with e; rw [← e]; exact ⟨by decide, by decide +kernel⟩) ?_
      exact ⟨rfl, ⟨shpS (by decide +kernel), shpS (by decide +kernel)⟩, rfl, bad ex⟩
  · obtain ⟨ps, ds, s2, s3, s4, s5, s6, rfl, rfl, lp, e⟩ := h
    rw [List.take_length] at e
    refine ifd (fun c => ?_) fun c => ?_
    · have c : ((ps.map pt).length : Int) > 60 := c
      rw [List.length_map, lp] at c
      rw [if_neg (by omega)] at k
      exact ⟨rfl, k⟩
    · have c : ¬ ((ps.map pt).length : Int) > 60 := c
      rw [List.length_map, lp] at c
      rw [if_pos (by omega), e] at k
      exact k
inductive S_L_refused : List Dat → (Rv → Prop) → (Str → Prop) → Prop
  | mk {κ : Rv → Prop} {ε : Str → Prop} (d : Dat) (ok : ∀ x, d = .str x → x.length ≤ 100000 ∧ PyData.strOk x = true) (hv : psD d = none) (k : κ (.v (.bl true))) : S_L_refused [d] κ ε
theorem sem_L_refused : ∀ ds κ ε, S_L_refused ds κ ε → d_L_refused S_read_points (endsOf κ ε) (entry ms_L_refused 4 ds) := by
  intro ds κ ε h
  obtain ⟨d, ok, hv, k⟩ := h
  cases d <;> (
    refine ⟨rfl, .mk _ ok (fun _ => onS_some rfl (ifT rfl fun a => ?_)) fun n e => nomatch (hv.symm.trans e)⟩
    walk_at "isx"
    walk_at "w"
    exact ⟨⟨rfl, rfl⟩, rfl, k⟩)
inductive S_L_good : List Dat → (Rv → Prop) → (Str → Prop) → Prop
  | mk {κ : Rv → Prop} {ε : Str → Prop} (ps : List Pt) (k : κ (.v (.bl true))) : S_L_good [.lst (ps.map pt), .lst (ps.map pt)] κ ε
theorem sem_L_good : ∀ ds κ ε, S_L_good ds κ ε → d_L_good (endsOf κ ε) (entry ms_L_good 4 ds) := by
  intro ds κ ε h
  obtain ⟨ps, k⟩ := h
  show d_L_good (endsOf κ ε) [.br (ps.map pt), .br (ps.map pt), .un, .un]
  refine ⟨⟨shp_pts _ ps, shp_pts _ ps⟩, ifPtsNe (fun z => absurd rfl z) fun _ => ?_⟩
  show t_L_good_1 (endsOf κ ε) [.br (ps.map pt), .br (ps.map pt), .un, .un]
  refine ⟨rfl, ?_⟩
  refine for_map (f := pt) (xs := ps) (fun i ρ => ∃ s2 s3, ρ = [.br (ps.map pt), .br (ps.map pt), s2, s3]) ⟨_, _, rfl⟩ (fun i p ρ N hp h hN => ?_) (fun ρ h => ?_)
  · obtain ⟨s2, s3, rfl⟩ := h
    exact hN _ ⟨_, _, rfl⟩
  · obtain ⟨s2, s3, rfl⟩ := h
    exact ⟨rfl, k⟩
theorem ps_empty : psS (Str.ofString "") = none := by decide +kernel
theorem ps_blank : psS (Str.ofString " ") = none := by decide +kernel
theorem sem_law : ∀ ds κ ε, S_law ds κ ε → d_law S_L_points S_show_points S_L_changed S_L_cell S_L_spots S_L_refused S_read_points S_L_good (endsOf κ ε) (entry ms_law 9 ds) := by
  intro ds κ ε h
  obtain ⟨ns, rfl, hs, k⟩ := h
  show d_law _ _ _ _ _ _ _ _ _ [.br (ns.map Dat.int), .un, .un, .un, .un, .un, .un, .un, .un]
  refine .mk ns hs fun ps l1 l2 hb => ?_
  show t_law_1 S_L_points S_show_points S_L_changed S_L_cell S_L_spots S_L_refused S_read_points S_L_good _ [.br (ns.map Dat.int), .ow (ps.map pt), .un, .un, .un, .un, .un, .un, .un]
  refine ⟨rfl, ?_⟩
  refine lc_map (xs := ps) (f := pt) (h := fun p => Dat.str (shP p)) (by omega) (fun p N hx hN => ?_) ?_
  · have hp := hb p hx
    have a1 := asc_int (k := 60) (by decide) hp.1
    have a2 := asc_int (k := 60) (by decide) hp.2
    have ac : Asc 1 (Str.ofString ",") := ⟨by decide +kernel, by decide +kernel⟩
    have ad : ∀ {m n : Nat} {x y : Str}, Asc m x → Asc n y → m + n ≤ 20000 → x.length + y.length ≤ sizeLine := fun {m n x y} h1 h2 h => by
      have := h1.len
      have := h2.len
      exact Nat.le_trans (show x.length + y.length ≤ 20000 by omega) (by decide)
    have lg : ∀ {i : Int}, i.natAbs < 10 ^ 60 → i.natAbs.log2 < 1920 := fun h => Nat.lt_of_lt_of_le (log_lt (k := 1900) (Nat.lt_trans h p60) (by decide)) (by decide)
    refine ⟨rfl, lg hp.1, ad a1 ac (by decide), lg hp.2, ad (a1.app ac) a2 (by decide), ?_⟩
    rw [comma]
    exact hN
  have e : strsD (ps.map fun p => Dat.str (shP p)) = some (ps.map shP) := by
    have := strsD_map (ps.map shP)
    rw [List.map_map] at this
    exact this
  refine onS_some e ⟨join_side (by omega) hb, ?_⟩
  show t_law_2 S_L_points S_show_points S_L_changed S_L_cell S_L_spots S_L_refused S_read_points S_L_good _ [.br (ns.map Dat.int), .ow (ps.map pt), .fz (.str (shPs ps)), .un, .un, .un, .un, .un, .un]
  have at0 := asc_shPs hb
  have at1 : Asc 8000 (shPs ps) := at0.mono (by omega)
  have tpos : 0 < (shPs ps).length := by
    cases ps with
    | nil => exact absurd l1 (by decide)
    | cons p r =>
      have sl := join_sub (Str.ofString " ") ((p :: r).map shP) (shP p) (by simp)
      have : 44 ∈ tl (shP p) := by
        unfold shP
        rw [tl_app, tl_app]
        exact List.mem_append_left _ (List.mem_append_right _ (List.mem_singleton.mpr rfl))
      have m := sl.subset this
      rw [← StrLaws.glued_eq_join] at m
      have m : 44 ∈ tl (shPs (p :: r)) := m
      rw [len_tl]
      cases q : tl (shPs (p :: r)) with
      | nil => rw [q] at m; exact nomatch m
      | cons a b => simp
  have t3 : ∀ s5, t_law_3 S_L_points S_show_points S_L_changed S_L_cell S_L_spots S_L_refused S_read_points S_L_good (endsOf κ ε) [.br (ns.map Dat.int), .ow (ps.map pt), .fz (.str (shPs ps)), .un, .un, s5, .un, .un, .un] := by
    intro s5
    refine .mk ns _ hs (by decide) (by decide) ?_
    refine ⟨by walk_at "side", by walk_at "side", ?_⟩
    refine .mk _ _ at1 tpos fun y ay => ?_
    have ok : y.length ≤ 100000 ∧ PyData.strOk y = true := ⟨Nat.le_trans ay.len (by decide), ay.ok⟩
    have okD : ∀ x, Dat.str y = .str x → x.length ≤ 100000 ∧ PyData.strOk x = true := fun x e => by injection e with e; rw [← e]; exact ok
    refine .mk y ok ?_
    have t5 : ∀ s6, (∀ s7, t_law_6 S_L_points S_show_points S_L_changed S_L_cell S_L_spots S_L_refused S_read_points S_L_good (endsOf κ ε) [.br (ns.map Dat.int), .fz (.lst (ps.map pt)), .fz (.str y), .un, .un, s5, s6, s7, .un]) → t_law_5 S_L_points S_show_points S_L_changed S_L_cell S_L_spots S_L_refused S_read_points S_L_good (endsOf κ ε) [.br (ns.map Dat.int), .ow (ps.map pt), .fz (.str y), .un, .un, s5, s6, .un, .un] := by
      intro s6 t6
      refine ⟨rfl, rfl, rfl, ?_⟩
      show sForL (gN 7) (b_law_2 S_L_refused) _ [.non, .lst (ps.map pt), .tup [.str (Str.ofString "0,0")], .int 7, .str (Str.ofString ""), .str (Str.ofString " ")] [.br (ns.map Dat.int), .fz (.lst (ps.map pt)), .fz (.str y), .un, .un, s5, s6, .un, .un]
      refine for_map' (f := fun d : Dat => d) (ds := [.non, .lst (ps.map pt), .tup [.str (Str.ofString "0,0")], .int 7, .str (Str.ofString ""), .str (Str.ofString " ")]) [.non, .lst (ps.map pt), .tup [.str (Str.ofString "0,0")], .int 7, .str (Str.ofString ""), .str (Str.ofString " ")] rfl (fun i ρ => ∃ s7, ρ = [.br (ns.map Dat.int), .fz (.lst (ps.map pt)), .fz (.str y), .un, .un, s5, s6, s7, .un]) ⟨_, rfl⟩ (fun i d ρ N hd h hN => ?_) (fun ρ h => ?_)
      · obtain ⟨s7, rfl⟩ := h
        have md := List.mem_of_getElem? hd
        have key : (∀ x, d = .str x → x.length ≤ 100000 ∧ PyData.strOk x = true) ∧ psD d = none := by
          simp only [List.mem_cons, List.not_mem_nil, or_false] at md
          rcases md with rfl | rfl | rfl | rfl | rfl | rfl
          · exact ⟨fun x e => (nomatch e), rfl⟩
          · exact ⟨fun x e => (nomatch e), rfl⟩
          · exact ⟨fun x e => (nomatch e), rfl⟩
          · exact ⟨fun x e => (nomatch e), rfl⟩
          · exact ⟨fun x e => by injection e with e; rw [← e]; exact ⟨by decide +kernel, by decide +kernel⟩, ps_empty⟩
          · exact ⟨fun x e => by injection e with e; rw [← e]; exact ⟨by decide +kernel, by decide +kernel⟩, ps_blank⟩
        exact .mk d key.1 key.2 (hN _ ⟨_, rfl⟩)
      · obtain ⟨s7, rfl⟩ := h
        exact t6 s7
    cases hv : psS y with
    | none => exact t5 (.fz .non) fun s7 => .mk _ okD hv ⟨rfl, k⟩
    | some qs =>
      refine t5 (.ow (qs.map pt)) fun s7 => ?_
      refine .mk _ okD (fun z => nomatch (hv.symm.trans z)) fun rs hr => ?_
      have hr : some qs = some rs := hv.symm.trans hr
      cases hr
      refine .mk qs ?_
      have lq : qs.length ≤ 60 := by
        unfold psS at hv
        split at hv
        · rename_i l; rw [allP_len hv]; exact l
        · exact nomatch hv
      refine ⟨rfl, szm (by omega), ?_⟩
      refine .mk _ okD (fun z => nomatch (hv.symm.trans z)) fun rs hr => ?_
      have hr : some qs = some rs := hv.symm.trans hr
      cases hr
      exact .mk qs ⟨rfl, k⟩
  refine ifd (fun c => ?_) fun c => ?_
  · have c : ((ps.map pt).length : Int) ≤ 60 := c
    rw [List.length_map] at c
    refine .mk ps (by omega) hb ?_
    have e1 : eqD (.str (shPs ps)) (.str (shPs ps)) = true := eqD_refl 8 _ (shpS at1.ok)
    refine ⟨⟨shpS at1.ok, shpS at1.ok⟩, ?_⟩
    show asB (.v (.bl (!eqD (.str (shPs ps)) (.str (shPs ps))))) _
    rw [e1]
    refine ⟨⟨shp_pts _ ps, shp_pts _ ps⟩, ?_⟩
    have e2 : eqD (.lst (ps.map pt)) (.lst (ps.map pt)) = true := (eqD_pts _ _).trans (decide_eq_true rfl)
    show asB (.v (.bl (!eqD (.lst (ps.map pt)) (.lst (ps.map pt))))) _
    rw [e2]
    exact t3 _
  · exact t3 _
end Py
namespace Py
open PySem PySem.Spec PyProof.Rows L2 DL
theorem all_mk {l : PySem.W.OpenLaw} {w : World} {K : PySem.W.Frag} {h : Heap} {mg : MG} {fa f0 f1 f2 f3 f4 f5 f6 f7 f8 f9 f10 f11 f12 f13 f14 f15 : Addr} (X : K.In h) (G : h.Ns mainGlobals mg) (hfa : mg "law" = some (.ref fa))
    {od0 od1 od2 od3 od4 od5 od6 od7 od8 od9 od10 od11 od12 od13 od14 od15 an0 an1 an2 an3 an4 an5 an6 an7 an8 an9 an10 an11 an12 an13 an14 an15 : Option Addr} {sl0 sl1 sl2 sl3 sl4 sl5 sl6 sl7 sl8 sl9 sl10 sl11 sl12 sl13 sl14 sl15 : Array (Option Value)} {oc0 oc1 oc2 oc3 oc4 oc5 oc6 oc7 oc8 oc9 oc10 oc11 oc12 oc13 oc14 oc15 kV0 kV1 kV2 kV3 kV4 kV5 kV6 kV7 kV8 kV9 kV10 kV11 kV12 kV13 kV14 kV15 dc0 dc1 dc2 dc3 dc4 dc5 dc6 dc7 dc8 dc9 dc10 dc11 dc12 dc13 dc14 dc15 pm0 pm1 pm2 pm3 pm4 pm5 pm6 pm7 pm8 pm9 pm10 pm11 pm12 pm13 pm14 pm15 cd0 cd1 cd2 cd3 cd4 cd5 cd6 cd7 cd8 cd9 cd10 cd11 cd12 cd13 cd14 cd15 ct0 ct1 ct2 ct3 ct4 ct5 ct6 ct7 ct8 ct9 ct10 ct11 ct12 ct13 ct14 ct15 : Value}
    (a0 : PySem.W.nsIn K mainGlobals "read_number" = some (some (.ref f0))) (l0 : K.lookup f0 = some ⟨oc0, od0, .func (PySem.W.fnOf "read_number" "read_number" (defArgs s_read_number) (defBody s_read_number) (defScope s_read_number) .none kV0 dc0 pm0 an0 cd0 ct0), sl0⟩) (c0 : PySem.W.codeIn K cd0 "read_number" = true) (k0 : PySem.W.keepIn K (.ref f0) = true)
    (a1 : PySem.W.nsIn K mainGlobals "read_point" = some (some (.ref f1))) (l1 : K.lookup f1 = some ⟨oc1, od1, .func (PySem.W.fnOf "read_point" "read_point" (defArgs s_read_point) (defBody s_read_point) (defScope s_read_point) .none kV1 dc1 pm1 an1 cd1 ct1), sl1⟩) (c1 : PySem.W.codeIn K cd1 "read_point" = true) (k1 : PySem.W.keepIn K (.ref f1) = true)
    (a2 : PySem.W.nsIn K mainGlobals "read_points" = some (some (.ref f2))) (l2 : K.lookup f2 = some ⟨oc2, od2, .func (PySem.W.fnOf "read_points" "read_points" (defArgs s_read_points) (defBody s_read_points) (defScope s_read_points) .none kV2 dc2 pm2 an2 cd2 ct2), sl2⟩) (c2 : PySem.W.codeIn K cd2 "read_points" = true) (k2 : PySem.W.keepIn K (.ref f2) = true)
    (a3 : PySem.W.nsIn K mainGlobals "show_number" = some (some (.ref f3))) (l3 : K.lookup f3 = some ⟨oc3, od3, .func (PySem.W.fnOf "show_number" "show_number" (defArgs s_show_number) (defBody s_show_number) (defScope s_show_number) .none kV3 dc3 pm3 an3 cd3 ct3), sl3⟩) (c3 : PySem.W.codeIn K cd3 "show_number" = true) (k3 : PySem.W.keepIn K (.ref f3) = true)
    (a4 : PySem.W.nsIn K mainGlobals "show_point" = some (some (.ref f4))) (l4 : K.lookup f4 = some ⟨oc4, od4, .func (PySem.W.fnOf "show_point" "show_point" (defArgs s_show_point) (defBody s_show_point) (defScope s_show_point) .none kV4 dc4 pm4 an4 cd4 ct4), sl4⟩) (c4 : PySem.W.codeIn K cd4 "show_point" = true) (k4 : PySem.W.keepIn K (.ref f4) = true)
    (a5 : PySem.W.nsIn K mainGlobals "show_points" = some (some (.ref f5))) (l5 : K.lookup f5 = some ⟨oc5, od5, .func (PySem.W.fnOf "show_points" "show_points" (defArgs s_show_points) (defBody s_show_points) (defScope s_show_points) .none kV5 dc5 pm5 an5 cd5 ct5), sl5⟩) (c5 : PySem.W.codeIn K cd5 "show_points" = true) (k5 : PySem.W.keepIn K (.ref f5) = true)
    (a6 : PySem.W.nsIn K mainGlobals "_law_cell" = some (some (.ref f6))) (l6 : K.lookup f6 = some ⟨oc6, od6, .func (PySem.W.fnOf "_law_cell" "_law_cell" (defArgs s_L_cell) (defBody s_L_cell) (defScope s_L_cell) .none kV6 dc6 pm6 an6 cd6 ct6), sl6⟩) (c6 : PySem.W.codeIn K cd6 "_law_cell" = true) (k6 : PySem.W.keepIn K (.ref f6) = true)
    (a7 : PySem.W.nsIn K mainGlobals "_law_sign" = some (some (.ref f7))) (l7 : K.lookup f7 = some ⟨oc7, od7, .func (PySem.W.fnOf "_law_sign" "_law_sign" (defArgs s_L_sign) (defBody s_L_sign) (defScope s_L_sign) .none kV7 dc7 pm7 an7 cd7 ct7), sl7⟩) (c7 : PySem.W.codeIn K cd7 "_law_sign" = true) (k7 : PySem.W.keepIn K (.ref f7) = true)
    (a8 : PySem.W.nsIn K mainGlobals "_law_number" = some (some (.ref f8))) (l8 : K.lookup f8 = some ⟨oc8, od8, .func (PySem.W.fnOf "_law_number" "_law_number" (defArgs s_L_number) (defBody s_L_number) (defScope s_L_number) .none kV8 dc8 pm8 an8 cd8 ct8), sl8⟩) (c8 : PySem.W.codeIn K cd8 "_law_number" = true) (k8 : PySem.W.keepIn K (.ref f8) = true)
    (a9 : PySem.W.nsIn K mainGlobals "_law_points" = some (some (.ref f9))) (l9 : K.lookup f9 = some ⟨oc9, od9, .func (PySem.W.fnOf "_law_points" "_law_points" (defArgs s_L_points) (defBody s_L_points) (defScope s_L_points) .none kV9 dc9 pm9 an9 cd9 ct9), sl9⟩) (c9 : PySem.W.codeIn K cd9 "_law_points" = true) (k9 : PySem.W.keepIn K (.ref f9) = true)
    (a10 : PySem.W.nsIn K mainGlobals "_law_changed" = some (some (.ref f10))) (l10 : K.lookup f10 = some ⟨oc10, od10, .func (PySem.W.fnOf "_law_changed" "_law_changed" (defArgs s_L_changed) (defBody s_L_changed) (defScope s_L_changed) .none kV10 dc10 pm10 an10 cd10 ct10), sl10⟩) (c10 : PySem.W.codeIn K cd10 "_law_changed" = true) (k10 : PySem.W.keepIn K (.ref f10) = true)
    (a11 : PySem.W.nsIn K mainGlobals "_law_value" = some (some (.ref f11))) (l11 : K.lookup f11 = some ⟨oc11, od11, .func (PySem.W.fnOf "_law_value" "_law_value" (defArgs s_L_value) (defBody s_L_value) (defScope s_L_value) .none kV11 dc11 pm11 an11 cd11 ct11), sl11⟩) (c11 : PySem.W.codeIn K cd11 "_law_value" = true) (k11 : PySem.W.keepIn K (.ref f11) = true)
    (a12 : PySem.W.nsIn K mainGlobals "_law_spots" = some (some (.ref f12))) (l12 : K.lookup f12 = some ⟨oc12, od12, .func (PySem.W.fnOf "_law_spots" "_law_spots" (defArgs s_L_spots) (defBody s_L_spots) (defScope s_L_spots) .none kV12 dc12 pm12 an12 cd12 ct12), sl12⟩) (c12 : PySem.W.codeIn K cd12 "_law_spots" = true) (k12 : PySem.W.keepIn K (.ref f12) = true)
    (a13 : PySem.W.nsIn K mainGlobals "_law_refused" = some (some (.ref f13))) (l13 : K.lookup f13 = some ⟨oc13, od13, .func (PySem.W.fnOf "_law_refused" "_law_refused" (defArgs s_L_refused) (defBody s_L_refused) (defScope s_L_refused) .none kV13 dc13 pm13 an13 cd13 ct13), sl13⟩) (c13 : PySem.W.codeIn K cd13 "_law_refused" = true) (k13 : PySem.W.keepIn K (.ref f13) = true)
    (a14 : PySem.W.nsIn K mainGlobals "_law_good" = some (some (.ref f14))) (l14 : K.lookup f14 = some ⟨oc14, od14, .func (PySem.W.fnOf "_law_good" "_law_good" (defArgs s_L_good) (defBody s_L_good) (defScope s_L_good) .none kV14 dc14 pm14 an14 cd14 ct14), sl14⟩) (c14 : PySem.W.codeIn K cd14 "_law_good" = true) (k14 : PySem.W.keepIn K (.ref f14) = true)
    (a15 : PySem.W.nsIn K mainGlobals "law" = some (some (.ref f15))) (l15 : K.lookup f15 = some ⟨oc15, od15, .func (PySem.W.fnOf "law" "law" (defArgs s_law) (defBody s_law) (defScope s_law) .none kV15 dc15 pm15 an15 cd15 ct15), sl15⟩) (c15 : PySem.W.codeIn K cd15 "law" = true) (k15 : PySem.W.keepIn K (.ref f15) = true)
    (zbool_ : PySem.W.nsIn K mainGlobals "bool" = some none)
    (zint_ : PySem.W.nsIn K mainGlobals "int" = some none)
    (zisinstance_ : PySem.W.nsIn K mainGlobals "isinstance" = some none)
    (zlen_ : PySem.W.nsIn K mainGlobals "len" = some none)
    (zlist_ : PySem.W.nsIn K mainGlobals "list" = some none)
    (zmax_ : PySem.W.nsIn K mainGlobals "max" = some none)
    (zmin_ : PySem.W.nsIn K mainGlobals "min" = some none)
    (zrange_ : PySem.W.nsIn K mainGlobals "range" = some none)
    (zstr_ : PySem.W.nsIn K mainGlobals "str" = some none)
    (ztuple_ : PySem.W.nsIn K mainGlobals "tuple" = some none)
    {tMOST_FIGURES tMOST_POINTS : Tok}
    (gMOST_FIGURES : PySem.W.nsIn K mainGlobals "MOST_FIGURES" = some (some (.int 60 tMOST_FIGURES)))
    (gMOST_POINTS : PySem.W.nsIn K mainGlobals "MOST_POINTS" = some (some (.int 60 tMOST_POINTS)))
    {e0 e1 e2 e3 : Addr}
    (ea0 : PySem.W.nsIn K mainGlobals "NoName" = some (some (.ref e0)))
    (ek0 : PySem.W.keepIn K (.ref e0) = true)
    (ea1 : PySem.W.nsIn K mainGlobals "NoRow" = some (some (.ref e1)))
    (ek1 : PySem.W.keepIn K (.ref e1) = true)
    (ea2 : PySem.W.nsIn K mainGlobals "NoText" = some (some (.ref e2)))
    (ex2 : PySem.W.excIn K e2 veB "ValueError.__new__" = true) (eb2 : PySem.W.subIn K (.ref e2) (.type "BaseException") = some true) (et2 : PySem.W.typeIn K (.ref e2) = some (.type "type"))
    (ek2 : PySem.W.keepIn K (.ref e2) = true)
    (ei2 : PySem.W.findIn K (.ref e2) "__getattribute__" = some (some (.builtin "BaseException.__getattribute__"))) (ej2 : PySem.W.findIn K (.ref e2) "__getattr__" = some none) (eh2 : PySem.W.hasDictIn K e2 = true) (ec2 : PySem.W.findIn K (.ref e2) "__class__" = some (some (.builtin "object.__class__"))) (em2 : PySem.W.mroIn K e2 (.type "object") = some true)
    (ea3 : PySem.W.nsIn K mainGlobals "StakeError" = some (some (.ref e3)))
    (en : PySem.W.specialIn K (.builtin "object.__class__") "__get__" = some (some (.builtin "getset_descriptor.__get__"))) (eo : PySem.W.takesIn K (.builtin "object.__class__") = some true)
    (zve : PySem.W.nsIn K mainGlobals "ValueError" = some none)
    (m2_3 : PySem.W.exmOne K (.ref e2) (.ref e3) = some true)
    (i2_0 : PySem.W.kitOne K (.ref e2) (.ref e0) = some false)
    (i2_1 : PySem.W.kitOne K (.ref e2) (.ref e1) = some false)
    (i2_2 : PySem.W.kitOne K (.ref e2) (.ref e2) = some true)
    (iv2 : PySem.W.kitOne K (.ref e2) (.type "ValueError") = some true)
    : ∃ fd : FuncData, (∀ (s : Shared) (v : Value), BindsTo s fd ⟨[v], []⟩ [("script", v)]) ∧ ∀ base : Heap, K.In base → base.Ns mainGlobals mg → FnOk l.prog w K mg base (L2.CX l.prog w) 5 fa fd ["script"] (spLaw K) := by
  have e := hfa.symm.trans (PySem.W.mg_of X G a15)
  cases e
  have B : Bs mg := ⟨PySem.W.mg_none_of X G zbool_, PySem.W.mg_none_of X G zint_, PySem.W.mg_none_of X G zisinstance_, PySem.W.mg_none_of X G zlen_, PySem.W.mg_none_of X G zlist_, PySem.W.mg_none_of X G zmax_, PySem.W.mg_none_of X G zmin_, PySem.W.mg_none_of X G zrange_, PySem.W.mg_none_of X G zstr_, PySem.W.mg_none_of X G ztuple_⟩
  have ga0 := PySem.W.mg_of X G ea0
  have ga1 := PySem.W.mg_of X G ea1
  have ga2 := PySem.W.mg_of X G ea2
  have ga3 := PySem.W.mg_of X G ea3
  have xc2 : ExcC K e2 := ⟨ei2, ej2, eb2, eh2, ec2, en, eo, em2⟩
  have EX : Es K mg := ⟨⟨_, ga2, ex2, ek2, eb2, et2⟩, ⟨_, ga3⟩, ⟨List.forall_mem_cons.mpr ⟨.mk' ga2 ga3 m2_3, (fun _ h => nomatch h)⟩, List.forall_mem_cons.mpr ⟨.mk' ga2 xc2 ga0 ek0 i2_0, List.forall_mem_cons.mpr ⟨.mk' ga2 xc2 ga1 ek1 i2_1, List.forall_mem_cons.mpr ⟨.mk' ga2 xc2 ga2 ek2 i2_2, List.forall_mem_cons.mpr ⟨.mkV ga2 xc2 (PySem.W.mg_none_of X G zve) iv2, (fun _ h => nomatch h)⟩⟩⟩⟩⟩⟩
  have Gk : Ks mg := ⟨⟨_, PySem.W.mg_of X G gMOST_FIGURES⟩, ⟨_, PySem.W.mg_of X G gMOST_POINTS⟩⟩
  have F0 := fun_mk (st := s_read_number) l0 c0 k0
  have b0 := F0.binds (ps := ["text"]) fun _ _ _ _ _ _ us hl => match us, hl with | [_], _ => rfl
  have F1 := fun_mk (st := s_read_point) l1 c1 k1
  have b1 := F1.binds (ps := ["text"]) fun _ _ _ _ _ _ us hl => match us, hl with | [_], _ => rfl
  have F2 := fun_mk (st := s_read_points) l2 c2 k2
  have b2 := F2.binds (ps := ["text"]) fun _ _ _ _ _ _ us hl => match us, hl with | [_], _ => rfl
  have F3 := fun_mk (st := s_show_number) l3 c3 k3
  have b3 := F3.binds (ps := ["number"]) fun _ _ _ _ _ _ us hl => match us, hl with | [_], _ => rfl
  have F4 := fun_mk (st := s_show_point) l4 c4 k4
  have b4 := F4.binds (ps := ["point"]) fun _ _ _ _ _ _ us hl => match us, hl with | [_], _ => rfl
  have F5 := fun_mk (st := s_show_points) l5 c5 k5
  have b5 := F5.binds (ps := ["points"]) fun _ _ _ _ _ _ us hl => match us, hl with | [_], _ => rfl
  have F6 := fun_mk (st := s_L_cell) l6 c6 k6
  have b6 := F6.binds (ps := ["script", "k"]) fun _ _ _ _ _ _ us hl => match us, hl with | [_, _], _ => rfl
  have F7 := fun_mk (st := s_L_sign) l7 c7 k7
  have b7 := F7.binds (ps := ["cell"]) fun _ _ _ _ _ _ us hl => match us, hl with | [_], _ => rfl
  have F8 := fun_mk (st := s_L_number) l8 c8 k8
  have b8 := F8.binds (ps := ["cell"]) fun _ _ _ _ _ _ us hl => match us, hl with | [_], _ => rfl
  have F9 := fun_mk (st := s_L_points) l9 c9 k9
  have b9 := F9.binds (ps := ["script"]) fun _ _ _ _ _ _ us hl => match us, hl with | [_], _ => rfl
  have F10 := fun_mk (st := s_L_changed) l10 c10 k10
  have b10 := F10.binds (ps := ["text", "cell"]) fun _ _ _ _ _ _ us hl => match us, hl with | [_, _], _ => rfl
  have F11 := fun_mk (st := s_L_value) l11 c11 k11
  have b11 := F11.binds (ps := ["word"]) fun _ _ _ _ _ _ us hl => match us, hl with | [_], _ => rfl
  have F12 := fun_mk (st := s_L_spots) l12 c12 k12
  have b12 := F12.binds (ps := ["text"]) fun _ _ _ _ _ _ us hl => match us, hl with | [_], _ => rfl
  have F13 := fun_mk (st := s_L_refused) l13 c13 k13
  have b13 := F13.binds (ps := ["text"]) fun _ _ _ _ _ _ us hl => match us, hl with | [_], _ => rfl
  have F14 := fun_mk (st := s_L_good) l14 c14 k14
  have b14 := F14.binds (ps := ["found", "due"]) fun _ _ _ _ _ _ us hl => match us, hl with | [_, _], _ => rfl
  have F15 := fun_mk (st := s_law) l15 c15 k15
  have b15 := F15.binds (ps := ["script"]) fun _ _ _ _ _ _ us hl => match us, hl with | [_], _ => rfl
  refine ⟨PySem.W.fnOf "law" "law" (defArgs s_law) (defBody s_law) (defScope s_law) .none kV15 dc15 pm15 an15 cd15 ct15, fun s v => .of_eq rfl, fun base _ _ => ?_⟩
  have G0 := ok_read_number (P := l.prog) (w := w) (base := base) F0 (PySem.W.mg_of X G a0) b0 B Gk EX sem_read_number
  have G1 := ok_read_point (P := l.prog) (w := w) (base := base) F1 (PySem.W.mg_of X G a1) b1 B Gk EX G0 sem_read_point
  have G2 := ok_read_points (P := l.prog) (w := w) (base := base) F2 (PySem.W.mg_of X G a2) b2 B Gk EX G1 sem_read_points
  have G3 := ok_show_number (P := l.prog) (w := w) (base := base) F3 (PySem.W.mg_of X G a3) b3 B Gk EX sem_show_number
  have G4 := ok_show_point (P := l.prog) (w := w) (base := base) F4 (PySem.W.mg_of X G a4) b4 B Gk EX G3 sem_show_point
  have G5 := ok_show_points (P := l.prog) (w := w) (base := base) F5 (PySem.W.mg_of X G a5) b5 B Gk EX G4 sem_show_points
  have G6 := ok_L_cell (P := l.prog) (w := w) (base := base) F6 (PySem.W.mg_of X G a6) b6 B Gk EX sem_L_cell
  have G7 := ok_L_sign (P := l.prog) (w := w) (base := base) F7 (PySem.W.mg_of X G a7) b7 B Gk EX sem_L_sign
  have G8 := ok_L_number (P := l.prog) (w := w) (base := base) F8 (PySem.W.mg_of X G a8) b8 B Gk EX sem_L_number
  have G9 := ok_L_points (P := l.prog) (w := w) (base := base) F9 (PySem.W.mg_of X G a9) b9 B Gk EX G8 G6 sem_L_points
  have G10 := ok_L_changed (P := l.prog) (w := w) (base := base) F10 (PySem.W.mg_of X G a10) b10 B Gk EX G7 sem_L_changed
  have G11 := ok_L_value (P := l.prog) (w := w) (base := base) F11 (PySem.W.mg_of X G a11) b11 B Gk EX sem_L_value
  have G12 := ok_L_spots (P := l.prog) (w := w) (base := base) F12 (PySem.W.mg_of X G a12) b12 B Gk EX G11 sem_L_spots
  have G13 := ok_L_refused (P := l.prog) (w := w) (base := base) F13 (PySem.W.mg_of X G a13) b13 B Gk EX G2 sem_L_refused
  have G14 := ok_L_good (P := l.prog) (w := w) (base := base) F14 (PySem.W.mg_of X G a14) b14 B Gk EX sem_L_good
  exact law_fn (fn_law F15 B Gk EX G9 G5 G10 G6 G12 G13 G2 G14 sem_law) S_law_of
end Py
open PySem PySem.W PyProof.Rows in
set_option maxRecDepth 100000 in
set_option maxHeartbeats 0 in
theorem PySem.Challenge.cw_stakefield_k73_whole_rows_of_points_holds : PySem.Challenge.rw_stakefield_k73_whole_rows_of_points.Holds := by
  w_on; o_law; k_head; (case hw => w_witness2)
  k_fill
  refine DL.walk_dl (l := PySem.Challenge.rw_stakefield_k73_whole_rows_of_points) (k := 5) ⟨rfl, by decide, by decide⟩ rfl rfl (fun w h Y => PySem.W.kIn_of Y) ?F
  case F =>
    intro w mg fa h KX G hmg
    refine' Py.all_mk KX G hmg ?a0 ?l0 ?c0 ?k0 ?a1 ?l1 ?c1 ?k1 ?a2 ?l2 ?c2 ?k2 ?a3 ?l3 ?c3 ?k3 ?a4 ?l4 ?c4 ?k4 ?a5 ?l5 ?c5 ?k5 ?a6 ?l6 ?c6 ?k6 ?a7 ?l7 ?c7 ?k7 ?a8 ?l8 ?c8 ?k8 ?a9 ?l9 ?c9 ?k9 ?a10 ?l10 ?c10 ?k10 ?a11 ?l11 ?c11 ?k11 ?a12 ?l12 ?c12 ?k12 ?a13 ?l13 ?c13 ?k13 ?a14 ?l14 ?c14 ?k14 ?a15 ?l15 ?c15 ?k15 ?zbool_ ?zint_ ?zisinstance_ ?zlen_ ?zlist_ ?zmax_ ?zmin_ ?zrange_ ?zstr_ ?ztuple_ ?gMOST_FIGURES ?gMOST_POINTS ?ea0 ?ek0 ?ea1 ?ek1 ?ea2 ?ex2 ?eb2 ?et2 ?ek2 ?ei2 ?ej2 ?eh2 ?ec2 ?em2 ?ea3 ?en ?eo ?zve ?m2_3 ?i2_0 ?i2_1 ?i2_2 ?iv2
    (case a0 => k_is)
    (case l0 => k_is)
    (case c0 => k_is)
    (case k0 => k_is)
    (case a1 => k_is)
    (case l1 => k_is)
    (case c1 => k_is)
    (case k1 => k_is)
    (case a2 => k_is)
    (case l2 => k_is)
    (case c2 => k_is)
    (case k2 => k_is)
    (case a3 => k_is)
    (case l3 => k_is)
    (case c3 => k_is)
    (case k3 => k_is)
    (case a4 => k_is)
    (case l4 => k_is)
    (case c4 => k_is)
    (case k4 => k_is)
    (case a5 => k_is)
    (case l5 => k_is)
    (case c5 => k_is)
    (case k5 => k_is)
    (case a6 => k_is)
    (case l6 => k_is)
    (case c6 => k_is)
    (case k6 => k_is)
    (case a7 => k_is)
    (case l7 => k_is)
    (case c7 => k_is)
    (case k7 => k_is)
    (case a8 => k_is)
    (case l8 => k_is)
    (case c8 => k_is)
    (case k8 => k_is)
    (case a9 => k_is)
    (case l9 => k_is)
    (case c9 => k_is)
    (case k9 => k_is)
    (case a10 => k_is)
    (case l10 => k_is)
    (case c10 => k_is)
    (case k10 => k_is)
    (case a11 => k_is)
    (case l11 => k_is)
    (case c11 => k_is)
    (case k11 => k_is)
    (case a12 => k_is)
    (case l12 => k_is)
    (case c12 => k_is)
    (case k12 => k_is)
    (case a13 => k_is)
    (case l13 => k_is)
    (case c13 => k_is)
    (case k13 => k_is)
    (case a14 => k_is)
    (case l14 => k_is)
    (case c14 => k_is)
    (case k14 => k_is)
    (case a15 => k_is)
    (case l15 => k_is)
    (case c15 => k_is)
    (case k15 => k_is)
    (case zbool_ => k_is)
    (case zint_ => k_is)
    (case zisinstance_ => k_is)
    (case zlen_ => k_is)
    (case zlist_ => k_is)
    (case zmax_ => k_is)
    (case zmin_ => k_is)
    (case zrange_ => k_is)
    (case zstr_ => k_is)
    (case ztuple_ => k_is)
    (case gMOST_FIGURES => k_is)
    (case gMOST_POINTS => k_is)
    (case ea0 => k_is)
    (case ek0 => k_is)
    (case ea1 => k_is)
    (case ek1 => k_is)
    (case ea2 => k_is)
    (case ex2 => k_exc)
    (case eb2 => k_is)
    (case et2 => k_is)
    (case ek2 => k_is)
    (case ei2 => k_is)
    (case ej2 => k_is)
    (case eh2 => k_is)
    (case ec2 => k_is)
    (case em2 => k_is)
    (case ea3 => k_is)
    (case en => k_is)
    (case eo => k_is)
    (case zve => k_is)
    (case m2_3 => kts_exm)
    (case i2_0 => kit_is)
    (case i2_1 => kit_is)
    (case i2_2 => kit_is)
    (case iv2 => kit_is)
#print axioms PySem.Challenge.cw_stakefield_k73_whole_rows_of_points_holds
