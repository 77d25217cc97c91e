import PyProof.Rows.All
import Wide.All
import OpenK.AllK
import Wide.FinOn
import PySem.Challenge.RW_namesenough_k80_frames_are_read_up_to_th
import HandS.ForMost
import HandS.Walk
import HandS.IsInst
import HandS.Style
import HandS.TupAny
import HandS.Wide
import HandS.Zip
import HandS.Rev
import HandS.Conv
import HandS.Defaults
import HandS.TryOnly
import HandS.TupMul
import HandS.Text
import HandS.More
import HandS.Deep
import KE.GoesEnum
import HandS.HeadHook1
import HandS.HeadHook2
import HandS.Small
import Open.Row
import HandS.Ends
import HandS.WordsExc
import HandS.Head0
import HandS.Head1
import HandS.Head2
import HandS.HeadEnd
import HandS.HeadHook4
section
set_option Elab.async false
set_option Elab.async false
set_option linter.all false
set_option maxRecDepth 100000
set_option maxHeartbeats 2000000
set_option autoImplicit false
/-! DD: programs as functions of plain data. D: a value without the heap; Sta: the slots; M: what a piece of code does. -/
namespace DD
open PySem PySem.Spec PyProof.Rows L2

inductive D where
  | non | bl (b : Bool) | int (i : Int) | str (x : Str) | ty (n : String) | adr (a : Addr)
  | tup (xs : List D) | lst (xs : List D)
  | obj (C : Addr) (ns : List Str) (xs : List D)
  | dct (ks : List Key) (xs : List D) | dctT (ks : List (List Key)) (xs : List D)
  | scr (ns : List Int)
  | deal
  deriving Inhabited

/-- an object that one name alone holds: it may be changed -/
inductive OD where
  | lst (xs : List D) | dct (ks : List Key) (xs : List D) | dctT (ks : List (List Key)) (xs : List D)
def OD.d : OD → D
  | .lst xs => .lst xs
  | .dct ks xs => .dct ks xs
  | .dctT ks xs => .dctT ks xs

mutual
inductive Rep (K : PySem.W.Frag) (dp : Addr) (F : Hp) : D → V → Prop
  | non : Rep K dp F .non .non
  | bl (b : Bool) : Rep K dp F (.bl b) (.bl b)
  | int (i : Int) : Rep K dp F (.int i) (.int i)
  | str (x : Str) : Rep K dp F (.str x) (.str x)
  | ty (n : String) : Rep K dp F (.ty n) (.ty n)
  | adr (a : Addr) : Rep K dp F (.adr a) (.ref a)
  | deal : Rep K dp F .deal (.ref dp)
  | scr {a : Addr} {ns : List Int} : SqL K F a (ns.map V.int) → Rep K dp F (.scr ns) (.ref a)
  | tup {a : Addr} {vs : List V} {ds : List D} : SqT K F a vs → Reps K dp F ds vs → Rep K dp F (.tup ds) (.ref a)
  | lst {a : Addr} {vs : List V} {ds : List D} : F a = some (.lst vs) → Reps K dp F ds vs → Rep K dp F (.lst ds) (.ref a)
  | obj {a C dx : Addr} {fs : List (Str × V)} {ns : List Str} {ds : List D} : F a = some (.ins C dx fs) → fs.map (·.1) = ns → Reps K dp F ds (fs.map (·.2)) → Rep K dp F (.obj C ns ds) (.ref a)
  | dct {a : Addr} {ks : List Key} {vs : List V} {ds : List D} : F a = some (.dK (ks.zip vs)) → ks.length = vs.length → Reps K dp F ds vs → Rep K dp F (.dct ks ds) (.ref a)
  | dctT {a : Addr} {ks : List (List Key)} {vs : List V} {ds : List D} : F a = some (.dT (ks.zip vs)) → ks.length = vs.length → Reps K dp F ds vs → Rep K dp F (.dctT ks ds) (.ref a)
inductive Reps (K : PySem.W.Frag) (dp : Addr) (F : Hp) : List D → List V → Prop
  | nil : Reps K dp F [] []
  | cons {d : D} {ds : List D} {v : V} {vs : List V} : Rep K dp F d v → Reps K dp F ds vs → Reps K dp F (d :: ds) (v :: vs)
end

theorem Same.seqT {K : PySem.W.Frag} {H H' : Hp} {a : Addr} {xs : List V} (e : Same H H') (h : SqT K H a xs) : SqT K H' a xs := by
  rcases h with (h | ⟨o, h⟩) | h
  · exact .inl (.inl (e _ _ h))
  · exact .inl (.inr ⟨o, e _ _ h⟩)
  · exact .inr h

section
variable {K : PySem.W.Frag} {dp : Addr} {F F' : Hp}
mutual
theorem Rep.mono (s : Same F F') : ∀ {d : D} {v : V}, Rep K dp F d v → Rep K dp F' d v
  | _, _, .non => .non
  | _, _, .bl b => .bl b
  | _, _, .int b => .int b
  | _, _, .str b => .str b
  | _, _, .ty b => .ty b
  | _, _, .adr b => .adr b
  | _, _, .deal => .deal
  | _, _, .scr h => .scr (s.seq h)
  | _, _, .tup h r => .tup (Same.seqT s h) (Reps.mono s r)
  | _, _, .lst h r => .lst (s _ _ h) (Reps.mono s r)
  | _, _, .obj h e r => .obj (s _ _ h) e (Reps.mono s r)
  | _, _, .dct h e r => .dct (s _ _ h) e (Reps.mono s r)
  | _, _, .dctT h e r => .dctT (s _ _ h) e (Reps.mono s r)
theorem Reps.mono (s : Same F F') : ∀ {ds : List D} {vs : List V}, Reps K dp F ds vs → Reps K dp F' ds vs
  | _, _, .nil => .nil
  | _, _, .cons h r => .cons (Rep.mono s h) (Reps.mono s r)
end
theorem Reps.length : ∀ {ds : List D} {vs : List V}, Reps K dp F ds vs → ds.length = vs.length
  | _, _, .nil => rfl
  | _, _, .cons _ r => by simp [Reps.length r]
theorem Reps.app : ∀ {ds es : List D} {vs ws : List V}, Reps K dp F ds vs → Reps K dp F es ws → Reps K dp F (ds ++ es) (vs ++ ws)
  | _, _, _, _, .nil, s => s
  | _, _, _, _, .cons h r, s => .cons h (Reps.app r s)
theorem Reps.get : ∀ {ds : List D} {vs : List V} {i : Nat} {d : D}, Reps K dp F ds vs → ds[i]? = some d → ∃ v, vs[i]? = some v ∧ Rep K dp F d v
  | _, _, _, _, .nil, e => by simp at e
  | _, _, 0, _, .cons h _, e => by simp at e; subst e; exact ⟨_, rfl, h⟩
  | _, _, i + 1, d, .cons _ r, e => by
    obtain ⟨v, h1, h2⟩ := Reps.get (i := i) (d := d) r (by simpa using e)
    exact ⟨v, by simpa using h1, h2⟩
theorem Reps.getV : ∀ {ds : List D} {vs : List V} {i : Nat} {v : V}, Reps K dp F ds vs → vs[i]? = some v → ∃ d, ds[i]? = some d ∧ Rep K dp F d v
  | _, _, _, _, .nil, e => by simp at e
  | _, _, 0, _, .cons h _, e => by simp at e; subst e; exact ⟨_, rfl, h⟩
  | _, _, i + 1, v, .cons _ r, e => by
    obtain ⟨d, h1, h2⟩ := Reps.getV (i := i) (v := v) r (by simpa using e)
    exact ⟨d, by simpa using h1, h2⟩
theorem Reps.set {d : D} {v : V} (h : Rep K dp F d v) : ∀ {ds : List D} {vs : List V} (i : Nat), Reps K dp F ds vs → Reps K dp F (ds.set i d) (vs.set i v)
  | _, _, _, .nil => .nil
  | _, _, 0, .cons _ r => .cons h r
  | _, _, i + 1, .cons q r => .cons q (Reps.set h i r)
theorem Reps.take : ∀ {ds : List D} {vs : List V} (n : Nat), Reps K dp F ds vs → Reps K dp F (ds.take n) (vs.take n)
  | _, _, 0, _ => .nil
  | _, _, _ + 1, .nil => .nil
  | _, _, n + 1, .cons h r => .cons h (Reps.take n r)
theorem Reps.drop : ∀ {ds : List D} {vs : List V} (n : Nat), Reps K dp F ds vs → Reps K dp F (ds.drop n) (vs.drop n)
  | _, _, 0, r => r
  | _, _, _ + 1, .nil => .nil
  | _, _, n + 1, .cons _ r => Reps.drop n r
theorem Reps.one {d : D} {vs : List V} (h : Reps K dp F [d] vs) : ∃ v, vs = [v] ∧ Rep K dp F d v := by
  cases h with
  | cons h r => cases r; exact ⟨_, rfl, h⟩
theorem Reps.two {d e : D} {vs : List V} (h : Reps K dp F [d, e] vs) : ∃ v w, vs = [v, w] ∧ Rep K dp F d v ∧ Rep K dp F e w := by
  cases h with
  | cons h r => obtain ⟨w, rfl, q⟩ := r.one; exact ⟨_, _, rfl, h, q⟩
theorem Reps.ints : ∀ (ns : List Int), Reps K dp F (ns.map D.int) (ns.map V.int)
  | [] => .nil
  | n :: ns => .cons (.int n) (Reps.ints ns)
theorem Reps.intsV : ∀ {ns : List Int} {vs : List V}, Reps K dp F (ns.map D.int) vs → vs = ns.map V.int
  | [], _, .nil => rfl
  | n :: ns, _, .cons h r => by cases h; rw [Reps.intsV r]; rfl
end

def RepO (K : PySem.W.Frag) (dp : Addr) (F : Hp) : OD → HO → Prop
  | .lst xs, ho => ∃ vs, ho = .lst vs ∧ Reps K dp F xs vs
  | .dct ks xs, ho => ∃ vs, ho = .dK (ks.zip vs) ∧ ks.length = vs.length ∧ Reps K dp F xs vs
  | .dctT ks xs, ho => ∃ vs, ho = .dT (ks.zip vs) ∧ ks.length = vs.length ∧ Reps K dp F xs vs
theorem RepO.mono {K : PySem.W.Frag} {dp : Addr} {F F' : Hp} (s : Same F F') {o : OD} {ho : HO} (h : RepO K dp F o ho) : RepO K dp F' o ho := by
  cases o with
  | lst xs => obtain ⟨vs, e, r⟩ := h; exact ⟨vs, e, r.mono s⟩
  | dct ks xs => obtain ⟨vs, e, z, r⟩ := h; exact ⟨vs, e, z, r.mono s⟩
  | dctT ks xs => obtain ⟨vs, e, z, r⟩ := h; exact ⟨vs, e, z, r.mono s⟩
theorem RepO.frz {K : PySem.W.Frag} {dp : Addr} {F : Hp} {a : Addr} {o : OD} {ho : HO} (h : RepO K dp F o ho) (e : F a = some ho) : Rep K dp F o.d (.ref a) := by
  cases o with
  | lst xs => obtain ⟨vs, rfl, r⟩ := h; exact .lst e r
  | dct ks xs => obtain ⟨vs, rfl, z, r⟩ := h; exact .dct e z r
  | dctT ks xs => obtain ⟨vs, rfl, z, r⟩ := h; exact .dctT e z r

inductive Slot where
  | un | val (d : D) | own (o : OD)
inductive R where
  | val (d : D) | own (o : OD)
def R.d : R → D
  | .val d => d
  | .own o => o.d
def R.slot : R → Slot
  | .val d => .val d
  | .own o => .own o
abbrev DSt := Option (List Int × Int)
structure Sta where
  sl : List Slot
  st : DSt
structure Exc where
  cls : Addr
  ns : List Str
  ds : List D
inductive Res (α : Type) where
  | ok (a : α) (S : Sta) | exc (x : Exc) (S : Sta) | bad
abbrev M (α : Type) := Sta → Res α
def mb {α β : Type} (f : M α) (k : α → M β) : M β := fun S => match f S with
  | .ok a S' => k a S'
  | .exc x S' => .exc x S'
  | .bad => .bad
def mp {α : Type} (a : α) : M α := fun S => .ok a S
def mo {α : Type} (o : Option α) : M α := fun S => match o with
  | some a => .ok a S
  | none => .bad

structure Wd where
  dp : Addr
  dq : Addr
  G : Hp
  F0 : Hp
def DealP (dp dq : Addr) (F H : Hp) : DSt → Prop
  | none => True
  | some (cs, m) => dp ≠ dq ∧ F dp = none ∧ F dq = none ∧ H dp = some (.lst [.ref dq, .int m]) ∧ H dq = some (.lst (cs.map V.int))
def OwnAt (K : PySem.W.Frag) (W : Wd) (F : Hp) (st : DSt) (H : Hp) (o : OD) (v : V) : Prop :=
  ∃ a ho, v = .ref a ∧ F a = none ∧ W.G a = none ∧ (st ≠ none → a ≠ W.dp ∧ a ≠ W.dq) ∧ H a = some ho ∧ RepO K W.dp F o ho
def SlotOk (K : PySem.W.Frag) (W : Wd) (F : Hp) (st : DSt) (H : Hp) (o : Option (Option V)) : Slot → Prop
  | .un => True
  | .val d => ∃ v, o = some (some v) ∧ Rep K W.dp F d v
  | .own od => ∃ v, o = some (some v) ∧ OwnAt K W F st H od v
structure Ok (K : PySem.W.Frag) (W : Wd) (F : Hp) (S : Sta) (σ : L2.St) (H : Hp) : Prop where
  fh : Same F H
  gh : Same W.G H
  ff : Same W.F0 F
  gf : ∀ b o, W.G b = some o → F b = W.F0 b
  dl : DealP W.dp W.dq F H S.st
  dg : S.st ≠ none → W.G W.dp = none ∧ W.G W.dq = none
  sl : ∀ (i : Nat) s, S.sl[i]? = some s → SlotOk K W F S.st H σ[i]? s
  ap : ∀ (i j : Nat) o o' v, i ≠ j → S.sl[i]? = some (.own o) → S.sl[j]? = some (.own o') → σ[i]? = some (some v) → σ[j]? ≠ some (some v)
  len : S.sl.length = σ.length
def NotIn (S : Sta) (σ : L2.St) (v : V) : Prop := ∀ (i : Nat) o', S.sl[i]? = some (.own o') → σ[i]? ≠ some (some v)
def RR (K : PySem.W.Frag) (W : Wd) (F H : Hp) (S : Sta) (σ : L2.St) : R → V → Prop
  | .val d, v => Rep K W.dp F d v
  | .own o, v => OwnAt K W F S.st H o v ∧ NotIn S σ v

section
variable {K : PySem.W.Frag} {W : Wd} {F F' H H' : Hp} {S S' : Sta} {σ : L2.St}
theorem some_of_ne {α : Type} {o : Option α} (h : o ≠ none) : ∃ x, o = some x := by
  cases o with
  | none => exact absurd rfl h
  | some x => exact ⟨x, rfl⟩
theorem DealP.grow {dp dq : Addr} {st : DSt} (h : DealP dp dq F H st) (hH : Same H H') (hn : ∀ b, H b ≠ none → F' b = F b) : DealP dp dq F' H' st := by
  cases st with
  | none => trivial
  | some p =>
    obtain ⟨cs, m⟩ := p
    obtain ⟨h1, h2, h3, h4, h5⟩ := h
    refine ⟨h1, ?_, ?_, hH _ _ h4, hH _ _ h5⟩
    · rw [hn dp (by rw [h4]; simp)]; exact h2
    · rw [hn dq (by rw [h5]; simp)]; exact h3
theorem OwnAt.grow {st : DSt} {o : OD} {v : V} (h : OwnAt K W F st H o v) (hH : Same H H') (hF : Same F F') (hn : ∀ b, H b ≠ none → F' b = F b) : OwnAt K W F' st H' o v := by
  obtain ⟨a, ho, e, f, g, d, q, r⟩ := h
  exact ⟨a, ho, e, by rw [hn a (by rw [q]; simp)]; exact f, g, d, hH _ _ q, r.mono hF⟩
/-- new things alone have come -/
theorem Ok.grow (k : Ok K W F S σ H) (hH : Same H H') (hF : Same F F') (hFH : Same F' H') (hn : ∀ b, H b ≠ none → F' b = F b) : Ok K W F' S σ H' where
  fh := hFH
  gh := k.gh.trans hH
  ff := k.ff.trans hF
  gf := fun b o e => by rw [hn b (by rw [k.gh b o e]; simp)]; exact k.gf b o e
  dl := k.dl.grow hH hn
  dg := k.dg
  sl := fun i s e => by
    have q := k.sl i s e
    cases s with
    | un => trivial
    | val d => obtain ⟨v, e1, r⟩ := q; exact ⟨v, e1, r.mono hF⟩
    | own o => obtain ⟨v, e1, r⟩ := q; exact ⟨v, e1, r.grow hH hF hn⟩
  ap := k.ap
  len := k.len
theorem same_upd {H : Hp} {p : Addr} {o : HO} (h : H p = none) : Same H (upd H p o) := fun b u e => by rw [upd_ne (ne_of_none e h)]; exact e
/-- a new frozen thing -/
theorem Ok.newF (k : Ok K W F S σ H) {p : Addr} {o : HO} (hp : H p = none) : Same F (upd F p o) ∧ Ok K W (upd F p o) S σ (upd H p o) := by
  have hf : F p = none := k.fh.free hp
  refine ⟨same_upd hf, k.grow (same_upd hp) (same_upd hf) (fun b u e => ?_) fun b e => ?_⟩
  · by_cases hb : b = p
    · subst hb; rw [upd_same] at e ⊢; exact e
    · rw [upd_ne hb] at e ⊢; exact k.fh b u e
  · exact upd_ne fun z => e (by rw [z]; exact hp)
/-- a new thing that is owned -/
theorem Ok.newO (k : Ok K W F S σ H) {p : Addr} {o : HO} (hp : H p = none) : Ok K W F S σ (upd H p o) :=
  k.grow (same_upd hp) (Same.refl _) (k.fh.trans (same_upd hp)) fun _ _ => rfl
theorem Ok.ownNew (k : Ok K W F S σ H) {p : Addr} {o : OD} {ho : HO} (hp : H p = none) (r : RepO K W.dp F o ho) : RR K W F (upd H p ho) S σ (.own o) (.ref p) := by
  refine ⟨⟨p, ho, rfl, k.fh.free hp, k.gh.free hp, fun hs => ?_, upd_same, r⟩, fun i o' e z => ?_⟩
  · obtain ⟨⟨cs, m⟩, e⟩ := some_of_ne hs
    have q := k.dl
    rw [e] at q
    obtain ⟨_, _, _, h4, h5⟩ := q
    exact ⟨(ne_of_none h4 hp).symm, (ne_of_none h5 hp).symm⟩
  · obtain ⟨v, e1, a, ho', e2, _, _, _, q, _⟩ := k.sl i _ e
    rw [z] at e1
    cases e1
    cases e2
    rw [hp] at q
    cases q
/-- an owned thing is changed no more -/
theorem Ok.freeze (k : Ok K W F S σ H) {o : OD} {v : V} (h : OwnAt K W F S.st H o v) (n : NotIn S σ v) : ∃ F', Same F F' ∧ Ok K W F' S σ H ∧ Rep K W.dp F' o.d v := by
  obtain ⟨a, ho, rfl, f, g, d, q, r⟩ := h
  have sF : Same F (upd F a ho) := same_upd f
  refine ⟨upd F a ho, sF, ⟨fun b u e => ?_, k.gh, k.ff.trans sF, fun b u e => ?_, ?_, k.dg, fun i s e => ?_, k.ap, k.len⟩, (r.mono sF).frz upd_same⟩
  · by_cases hb : b = a
    · subst hb; rw [upd_same] at e; cases e; exact q
    · rw [upd_ne hb] at e; exact k.fh b u e
  · rw [upd_ne (ne_of_none e g)]; exact k.gf b u e
  · have q := k.dl
    cases e : S.st with
    | none => trivial
    | some p =>
      obtain ⟨cs, m⟩ := p
      rw [e] at q
      obtain ⟨h1, h2, h3, h4, h5⟩ := q
      obtain ⟨d1, d2⟩ := d (by rw [e]; simp)
      exact ⟨h1, by rw [upd_ne d1.symm]; exact h2, by rw [upd_ne d2.symm]; exact h3, h4, h5⟩
  · have z := k.sl i s e
    cases s with
    | un => trivial
    | val d => obtain ⟨v, e1, r⟩ := z; exact ⟨v, e1, r.mono sF⟩
    | own o' =>
      obtain ⟨v, e1, a', ho', e2, f', g', d', q', r'⟩ := z
      refine ⟨v, e1, a', ho', e2, ?_, g', d', q', r'.mono sF⟩
      rw [upd_ne]
      · exact f'
      · rintro rfl
        exact n i o' e (by rw [e1, e2])
theorem RR.freeze (k : Ok K W F S σ H) {r : R} {v : V} (h : RR K W F H S σ r v) : ∃ F', Same F F' ∧ Ok K W F' S σ H ∧ Rep K W.dp F' r.d v := by
  cases r with
  | val d => exact ⟨F, Same.refl _, k, h⟩
  | own o => exact k.freeze h.1 h.2
/-- slots alone: each is as before or forgotten -/
theorem Ok.slots {sl' : List Slot} (k : Ok K W F S σ H) (hl : sl'.length = S.sl.length) (h : ∀ (i : Nat) s, sl'[i]? = some s → s = Slot.un ∨ S.sl[i]? = some s) : Ok K W F { S with sl := sl' } σ H where
  fh := k.fh
  gh := k.gh
  ff := k.ff
  gf := k.gf
  dl := k.dl
  dg := k.dg
  sl := fun i s e => by
    rcases h i s e with rfl | q
    · trivial
    · exact k.sl i s q
  ap := fun i j o o' v n e1 e2 => by
    rcases h i _ e1 with q | q
    · cases q
    · rcases h j _ e2 with q2 | q2
      · cases q2
      · exact k.ap i j o o' v n q q2
  len := hl.trans k.len
theorem set_get {α : Type} {l : List α} {i j : Nat} {x y : α} (h : (l.set i x)[j]? = some y) : (j = i ∧ y = x ∧ i < l.length) ∨ (j ≠ i ∧ l[j]? = some y) := by
  by_cases e : i = j
  · subst e
    by_cases hl : i < l.length
    · rw [List.getElem?_set_self hl] at h; exact .inl ⟨rfl, (Option.some.inj h).symm, hl⟩
    · rw [List.getElem?_eq_none (by simpa using hl)] at h; cases h
  · rw [List.getElem?_set_ne e] at h
    exact .inr ⟨fun z => e z.symm, h⟩
/-- a result is stored -/
theorem Ok.store (k : Ok K W F S σ H) {i : Nat} {r : R} {v : V} (hi : i < S.sl.length) (h : RR K W F H S σ r v) : Ok K W F { S with sl := S.sl.set i r.slot } (σ.set i (some v)) H where
  fh := k.fh
  gh := k.gh
  ff := k.ff
  gf := k.gf
  dl := k.dl
  dg := k.dg
  sl := fun j s e => by
    have hi' : i < σ.length := by rw [← k.len]; exact hi
    rcases set_get e with ⟨rfl, rfl, _⟩ | ⟨n, q⟩
    · show SlotOk K W F S.st H (σ.set j (some v))[j]? r.slot
      rw [List.getElem?_set_self hi']
      cases r with
      | val d => exact ⟨v, rfl, h⟩
      | own o => exact ⟨v, rfl, h.1⟩
    · show SlotOk K W F S.st H (σ.set i (some v))[j]? s
      rw [List.getElem?_set_ne (Ne.symm n)]
      exact k.sl j s q
  ap := fun a b o o' w n e1 e2 e3 e4 => by
    have hi' : i < σ.length := by rw [← k.len]; exact hi
    rcases set_get e1 with ⟨rfl, q, _⟩ | ⟨n1, q1⟩
    · rcases set_get e2 with ⟨rfl, _, _⟩ | ⟨n2, q2⟩
      · exact n rfl
      · rw [List.getElem?_set_self hi'] at e3
        rw [List.getElem?_set_ne (Ne.symm n2)] at e4
        cases e3
        cases r with
        | val d => cases q
        | own z => exact h.2 b o' q2 e4
    · rw [List.getElem?_set_ne (Ne.symm n1)] at e3
      rcases set_get e2 with ⟨rfl, q, _⟩ | ⟨n2, q2⟩
      · rw [List.getElem?_set_self hi'] at e4
        cases e4
        cases r with
        | val d => cases q
        | own z => exact h.2 a o q1 e3
      · rw [List.getElem?_set_ne (Ne.symm n2)] at e4
        exact k.ap a b o o' w n q1 q2 e3 e4
  len := by simp [k.len]
/-- what slot i owns is frozen there -/
theorem Ok.frzSlot (k : Ok K W F S σ H) {i : Nat} {o : OD} (e : S.sl[i]? = some (.own o)) : ∃ F' v, Same F F' ∧ σ[i]? = some (some v) ∧ Ok K W F' { S with sl := S.sl.set i (.val o.d) } σ H ∧ Rep K W.dp F' o.d v := by
  obtain ⟨hi, ei⟩ := List.getElem?_eq_some_iff.mp e
  obtain ⟨v, e1, w⟩ := k.sl i _ e
  have k1 : Ok K W F { S with sl := S.sl.set i .un } σ H := k.slots (by simp) fun j s q => by
    rcases set_get q with ⟨_, z, _⟩ | ⟨_, z⟩
    · exact .inl z
    · exact .inr z
  have n1 : NotIn { S with sl := S.sl.set i .un } σ v := fun j o' q => by
    rcases set_get q with ⟨_, z, _⟩ | ⟨n, z⟩
    · cases z
    · exact k.ap i j o o' v n.symm e z e1
  obtain ⟨F', s, k2, r⟩ := k1.freeze w n1
  refine ⟨F', v, s, e1, ?_, r⟩
  have k3 := k2.store (i := i) (r := .val o.d) (v := v) (by simpa using hi) r
  have eσ : σ.set i (some v) = σ := by
    apply List.ext_getElem?
    intro j
    by_cases hj : i = j
    · subst hj
      rw [List.getElem?_set_self (by rw [← k.len]; exact hi), e1]
    · rw [List.getElem?_set_ne hj]
  rw [eσ] at k3
  simpa [R.slot, List.set_set] using k3
/-- an owned slot's thing is changed -/
theorem Ok.upd (k : Ok K W F S σ H) {i : Nat} {o o' : OD} {a : Addr} {ho : HO} (e : S.sl[i]? = some (.own o)) (ea : σ[i]? = some (some (.ref a))) (r : RepO K W.dp F o' ho) :
    Ok K W F { S with sl := S.sl.set i (.own o') } σ (upd H a ho) := by
  obtain ⟨hi, ei⟩ := List.getElem?_eq_some_iff.mp e
  obtain ⟨v, e1, a1, ho1, e2, f, g, d, q, r1⟩ := k.sl i _ e
  rw [ea] at e1
  cases e1
  cases e2
  refine ⟨fun b u e' => ?_, fun b u e' => ?_, k.ff, k.gf, ?_, k.dg, fun j s e' => ?_, fun x y o1 o2 w n e1 e2 e3 => ?_, by simp [k.len]⟩
  · rw [upd_ne (ne_of_none e' f)]; exact k.fh b u e'
  · rw [upd_ne (ne_of_none e' g)]; exact k.gh b u e'
  · have q := k.dl
    show DealP W.dp W.dq F (L2.upd H a ho) S.st
    cases es : S.st with
    | none => trivial
    | some p =>
      obtain ⟨cs, m⟩ := p
      rw [es] at q
      obtain ⟨h1, h2, h3, h4, h5⟩ := q
      obtain ⟨d1, d2⟩ := d (by rw [es]; simp)
      exact ⟨h1, h2, h3, by rw [upd_ne d1.symm]; exact h4, by rw [upd_ne d2.symm]; exact h5⟩
  · rcases set_get e' with ⟨rfl, rfl, _⟩ | ⟨n, z⟩
    · exact ⟨_, ea, a, ho, rfl, f, g, d, upd_same, r⟩
    · have y := k.sl j s z
      cases s with
      | un => trivial
      | val d => exact y
      | own o2 =>
        obtain ⟨v, e1, a', ho', rfl, f', g', d', q', r'⟩ := y
        refine ⟨_, e1, a', ho', rfl, f', g', d', ?_, r'⟩
        rw [upd_ne]
        · exact q'
        · rintro rfl
          exact k.ap i j o o2 _ n.symm e z ea e1
  · rcases set_get e1 with ⟨rfl, _, _⟩ | ⟨n1, z1⟩
    · rcases set_get e2 with ⟨rfl, _, _⟩ | ⟨n2, z2⟩
      · exact absurd rfl n
      · exact k.ap x y _ _ w n e z2 e3
    · rcases set_get e2 with ⟨rfl, _, _⟩ | ⟨n2, z2⟩
      · exact k.ap x y _ _ w n z1 e e3
      · exact k.ap x y _ _ w n z1 z2 e3
end
end DD

end
section
set_option Elab.async false
set_option Elab.async false
set_option linter.all false
set_option maxRecDepth 100000
set_option maxHeartbeats 2000000
set_option autoImplicit false
namespace DD
open PySem PySem.Spec PyProof.Rows L2

/-! ### readings -/
def ExcAt (K : PySem.W.Frag) (W : Wd) (F H : Hp) (x : Exc) (d : Option Addr) : Prop :=
  (x.ns = [] ∧ x.ds = [] ∧ d = none) ∨ ∃ dd fs, d = some dd ∧ H dd = some (.xd fs) ∧ fs.map (·.1) = x.ns ∧ Reps K W.dp F x.ds (fs.map (·.2))
abbrev WX := Value → Option Addr → L2.St → Hp → Prop
def noE : WX := fun _ _ _ _ => False
section
variable (K : PySem.W.Frag) (E : WX)
def PostX (W : Wd) (F : Hp) (x : Exc) (S' : Sta) (σ : L2.St) : Prop := ∀ d F' H', Same F F' → Ok K W F' S' σ H' → ExcAt K W F' H' x d → E (.ref x.cls) d σ H'
def PostE (W : Wd) (F : Hp) (σ : L2.St) (r : Res R) (Q : VK) : Prop := match r with
  | .ok r S' => ∀ v F' H', Same F F' → Ok K W F' S' σ H' → RR K W F' H' S' σ r v → Q v H'
  | .exc x S' => PostX K E W F x S' σ
  | .bad => False
def tD (f : M R) : TE := fun σ H Q => ∃ W F S, Ok K W F S σ H ∧ PostE K E W F σ (f S) Q
def PostB (W : Wd) (F : Hp) (σ : L2.St) (r : Res Bool) (Q : Bool → Hp → Prop) : Prop := match r with
  | .ok b S' => ∀ F' H', Same F F' → Ok K W F' S' σ H' → Q b H'
  | .exc x S' => PostX K E W F x S' σ
  | .bad => False
def tT (f : M Bool) : TT := fun σ H Q => ∃ W F S, Ok K W F S σ H ∧ PostB K E W F σ (f S) Q
def PostA (W : Wd) (F : Hp) (σ : L2.St) (r : Res (List D)) (Q : List V → Hp → Prop) : Prop := match r with
  | .ok ds S' => ∀ vs F' H', Same F F' → Ok K W F' S' σ H' → Reps K W.dp F' ds vs → Q vs H'
  | .exc x S' => PostX K E W F x S' σ
  | .bad => False
def tA (f : M (List D)) : TA := fun σ H Q => ∃ W F S, Ok K W F S σ H ∧ PostA K E W F σ (f S) Q
end
section
variable {K : PySem.W.Frag} {E : WX} {W : Wd} {F F1 : Hp} {σ : L2.St}
theorem PostX.mono {x : Exc} {S' : Sta} (s : Same F F1) (h : PostX K E W F x S' σ) : PostX K E W F1 x S' σ := fun d F' H' s' => h d F' H' (s.trans s')
theorem PostE.mono {r : Res R} {Q : VK} (s : Same F F1) (h : PostE K E W F σ r Q) : PostE K E W F1 σ r Q := by
  cases r with
  | ok r S' => exact fun v F' H' s' => h v F' H' (s.trans s')
  | exc x S' => exact PostX.mono s h
  | bad => exact h
theorem PostB.mono {r : Res Bool} {Q : Bool → Hp → Prop} (s : Same F F1) (h : PostB K E W F σ r Q) : PostB K E W F1 σ r Q := by
  cases r with
  | ok r S' => exact fun F' H' s' => h F' H' (s.trans s')
  | exc x S' => exact PostX.mono s h
  | bad => exact h
theorem PostA.mono {r : Res (List D)} {Q : List V → Hp → Prop} (s : Same F F1) (h : PostA K E W F σ r Q) : PostA K E W F1 σ r Q := by
  cases r with
  | ok r S' => exact fun v F' H' s' => h v F' H' (s.trans s')
  | exc x S' => exact PostX.mono s h
  | bad => exact h
/-- one expression, then the rest, its value frozen -/
theorem tD_then {f : M R} {S : Sta} {H : Hp} {Q : VK} (k : Ok K W F S σ H)
    (hx : ∀ x S', f S = .exc x S' → PostX K E W F x S' σ) (hb : f S ≠ .bad)
    (ho : ∀ r S' v F' H', f S = .ok r S' → Same F F' → Ok K W F' S' σ H' → Rep K W.dp F' r.d v → Q v H') : tD K E f σ H Q := by
  refine ⟨W, F, S, k, ?_⟩
  cases e : f S with
  | ok r S' =>
    intro v F' H' s k' rr
    obtain ⟨F2, s2, k2, r2⟩ := rr.freeze k'
    exact ho r S' v F2 H' e (s.trans s2) k2 r2
  | exc x S' => exact hx x S' e
  | bad => exact hb e
theorem tD_bind {α : Type} {f : M R} {g : R → M α} {S : Sta} {H : Hp} {Q : VK} {PR : Hp → Res α → Prop} (k : Ok K W F S σ H) (hp : PR F (mb f g S)) (hbad : ∀ F, ¬ PR F .bad) (hexc : ∀ x S', PR F (.exc x S') → PostX K E W F x S' σ)
    (mono : ∀ r F', Same F F' → PR F r → PR F' r)
    (ho : ∀ r S' v F' H', Same F F' → Ok K W F' S' σ H' → Rep K W.dp F' r.d v → PR F' (g r S') → Q v H') : tD K E f σ H Q := by
  refine tD_then k (fun x S' e => ?_) (fun e => ?_) fun r S' v F' H' e s k' rr => ho r S' v F' H' s k' rr ?_
  · unfold mb at hp; rw [e] at hp; exact hexc x S' hp
  · unfold mb at hp; rw [e] at hp; exact hbad _ hp
  · unfold mb at hp; rw [e] at hp; exact mono _ _ s hp
theorem tD_bindE {f : M R} {g : R → M R} {S : Sta} {H : Hp} {Q Q' : VK} (k : Ok K W F S σ H) (hp : PostE K E W F σ (mb f g S) Q')
    (ho : ∀ r S' v F' H', Same F F' → Ok K W F' S' σ H' → Rep K W.dp F' r.d v → PostE K E W F' σ (g r S') Q' → Q v H') : tD K E f σ H Q :=
  tD_bind (PR := fun F r => PostE K E W F σ r Q') k hp (fun _ z => z) (fun _ _ z => z) (fun _ _ s z => z.mono s) ho
theorem tD_bindB {f : M R} {g : R → M Bool} {S : Sta} {H : Hp} {Q : VK} {Q' : Bool → Hp → Prop} (k : Ok K W F S σ H) (hp : PostB K E W F σ (mb f g S) Q')
    (ho : ∀ r S' v F' H', Same F F' → Ok K W F' S' σ H' → Rep K W.dp F' r.d v → PostB K E W F' σ (g r S') Q' → Q v H') : tD K E f σ H Q :=
  tD_bind (PR := fun F r => PostB K E W F σ r Q') k hp (fun _ z => z) (fun _ _ z => z) (fun _ _ s z => z.mono s) ho
theorem tD_bindA {f : M R} {g : R → M (List D)} {S : Sta} {H : Hp} {Q : VK} {Q' : List V → Hp → Prop} (k : Ok K W F S σ H) (hp : PostA K E W F σ (mb f g S) Q')
    (ho : ∀ r S' v F' H', Same F F' → Ok K W F' S' σ H' → Rep K W.dp F' r.d v → PostA K E W F' σ (g r S') Q' → Q v H') : tD K E f σ H Q :=
  tD_bind (PR := fun F r => PostA K E W F σ r Q') k hp (fun _ z => z) (fun _ _ z => z) (fun _ _ s z => z.mono s) ho
theorem tA_bind {f : M (List D)} {g : List D → M R} {S : Sta} {H : Hp} {Q : VK} {Q' : List V → Hp → Prop} (k : Ok K W F S σ H) (hp : PostE K E W F σ (mb f g S) Q)
    (ho : ∀ ds S' vs F' H', Same F F' → Ok K W F' S' σ H' → Reps K W.dp F' ds vs → PostE K E W F' σ (g ds S') Q → Q' vs H') : tA K E f σ H Q' := by
  refine ⟨W, F, S, k, ?_⟩
  unfold mb at hp
  cases e : f S with
  | ok ds S' => rw [e] at hp; exact fun vs F' H' s k' rr => ho ds S' vs F' H' s k' rr (PostE.mono s hp)
  | exc x S' => rw [e] at hp; exact hp
  | bad => rw [e] at hp; exact hp
theorem tA_bindA {f : M (List D)} {g : List D → M (List D)} {S : Sta} {H : Hp} {Q Q' : List V → Hp → Prop} (k : Ok K W F S σ H) (hp : PostA K E W F σ (mb f g S) Q)
    (ho : ∀ ds S' vs F' H', Same F F' → Ok K W F' S' σ H' → Reps K W.dp F' ds vs → PostA K E W F' σ (g ds S') Q → Q' vs H') : tA K E f σ H Q' := by
  refine ⟨W, F, S, k, ?_⟩
  unfold mb at hp
  cases e : f S with
  | ok ds S' => rw [e] at hp; exact fun vs F' H' s k' rr => ho ds S' vs F' H' s k' rr (PostA.mono s hp)
  | exc x S' => rw [e] at hp; exact hp
  | bad => rw [e] at hp; exact hp
theorem tT_bindE {f : M Bool} {g : Bool → M R} {S : Sta} {H : Hp} {Q : VK} {Q' : Bool → Hp → Prop} (k : Ok K W F S σ H) (hp : PostE K E W F σ (mb f g S) Q)
    (ho : ∀ b S' F' H', Same F F' → Ok K W F' S' σ H' → PostE K E W F' σ (g b S') Q → Q' b H') : tT K E f σ H Q' := by
  refine ⟨W, F, S, k, ?_⟩
  unfold mb at hp
  cases e : f S with
  | ok ds S' => rw [e] at hp; exact fun F' H' s k' => ho ds S' F' H' s k' (PostE.mono s hp)
  | exc x S' => rw [e] at hp; exact hp
  | bad => rw [e] at hp; exact hp
theorem tT_bindB {f : M Bool} {g : Bool → M Bool} {S : Sta} {H : Hp} {Q : Bool → Hp → Prop} {Q' : Bool → Hp → Prop} (k : Ok K W F S σ H) (hp : PostB K E W F σ (mb f g S) Q)
    (ho : ∀ b S' F' H', Same F F' → Ok K W F' S' σ H' → PostB K E W F' σ (g b S') Q → Q' b H') : tT K E f σ H Q' := by
  refine ⟨W, F, S, k, ?_⟩
  unfold mb at hp
  cases e : f S with
  | ok ds S' => rw [e] at hp; exact fun F' H' s k' => ho ds S' F' H' s k' (PostB.mono s hp)
  | exc x S' => rw [e] at hp; exact hp
  | bad => rw [e] at hp; exact hp
end

/-! ### expressions -/
section
variable {X : Cx} {E : WX}
theorem PE.mono' {e : Expr} {t t' : TE} (h : PE X e t) (m : ∀ σ H Q, t' σ H Q → t σ H Q) : PE X e t' := ⟨fun pins s σ H Q I q => h.run pins s σ H Q I (m σ H Q q)⟩
theorem PT.mono' {e : Expr} {t t' : TT} (h : PT X e t) (m : ∀ σ H Q, t' σ H Q → t σ H Q) : PT X e t' := ⟨fun pins s σ H Q I q => h.run pins s σ H Q I (m σ H Q q)⟩
theorem PA.mono' {e : List Expr} {t t' : TA} (h : PA X e t) (m : ∀ σ H Q, t' σ H Q → t σ H Q) : PA X e t' := ⟨fun pos pins s σ H Q I q => h.run pos pins s σ H Q I (m σ H Q q)⟩
abbrev DE (X : Cx) (E : WX) (e : Expr) (f : M R) : Prop := PE X e (tD X.K E f)
abbrev DT (X : Cx) (E : WX) (e : Expr) (f : M Bool) : Prop := PT X e (tT X.K E f)
abbrev DA (X : Cx) (E : WX) (e : List Expr) (f : M (List D)) : Prop := PA X e (tA X.K E f)

/-- a name: what it owns is frozen -/
def rd (i : Nat) : M R := fun S => match S.sl[i]? with
  | some (.val d) => .ok (.val d) S
  | some (.own o) => .ok (.val o.d) { S with sl := S.sl.set i (.val o.d) }
  | _ => .bad
theorem de_var {e : Expr} {i : Nat} (h : PE X e (tVar i)) : DE X E e (rd i) := by
  refine PE.mono' h fun σ H Q hq => ?_
  obtain ⟨W, F, S, k, p⟩ := hq
  unfold rd at p
  cases e1 : S.sl[i]? with
  | none => rw [e1] at p; exact p.elim
  | some s =>
    rw [e1] at p
    cases s with
    | un => exact p.elim
    | val d =>
      obtain ⟨v, q, r⟩ := k.sl i _ e1
      exact ⟨v, q, p v F H (Same.refl _) k r⟩
    | own o =>
      obtain ⟨F', v, s', q, k', r⟩ := k.frzSlot e1
      exact ⟨v, q, p v F' H s' k' r⟩
/-- a name that gives away what it has -/
def rdm (i : Nat) : M R := fun S => match S.sl[i]? with
  | some (.val d) => .ok (.val d) S
  | some (.own o) => .ok (.own o) { S with sl := S.sl.set i .un }
  | _ => .bad
theorem Ok.giveSlot {K : PySem.W.Frag} {W : Wd} {F H : Hp} {S : Sta} {σ : L2.St} (k : Ok K W F S σ H) {i : Nat} {o : OD} (e : S.sl[i]? = some (.own o)) :
    ∃ v, σ[i]? = some (some v) ∧ Ok K W F { S with sl := S.sl.set i .un } σ H ∧ RR K W F H { S with sl := S.sl.set i .un } σ (.own o) v := by
  obtain ⟨v, e1, w⟩ := k.sl i _ e
  have k1 : Ok K W F { S with sl := S.sl.set i .un } σ H := k.slots (by simp) fun j s q => by
    rcases set_get q with ⟨_, z, _⟩ | ⟨_, z⟩
    · exact .inl z
    · exact .inr z
  refine ⟨v, e1, k1, w, fun j o' q => ?_⟩
  rcases set_get q with ⟨_, z, _⟩ | ⟨n, z⟩
  · cases z
  · exact k.ap i j o o' v n.symm e z e1
theorem de_varm {e : Expr} {i : Nat} (h : PE X e (tVar i)) : DE X E e (rdm i) := by
  refine PE.mono' h fun σ H Q hq => ?_
  obtain ⟨W, F, S, k, p⟩ := hq
  unfold rdm at p
  cases e1 : S.sl[i]? with
  | none => rw [e1] at p; exact p.elim
  | some s =>
    rw [e1] at p
    cases s with
    | un => exact p.elim
    | val d =>
      obtain ⟨v, q, r⟩ := k.sl i _ e1
      exact ⟨v, q, p v F H (Same.refl _) k r⟩
    | own o =>
      obtain ⟨v, q, k', r⟩ := k.giveSlot e1
      exact ⟨v, q, p v F H (Same.refl _) k' r⟩
/-- a constant -/
theorem de_c {e : Expr} {v : V} {d : D} (h : PE X e (tC v)) (r : ∀ dp F, Rep X.K dp F d v) : DE X E e (mp (.val d)) := by
  refine PE.mono' h fun σ H Q hq => ?_
  obtain ⟨W, F, S, k, p⟩ := hq
  exact p v F H (Same.refl _) k (r _ _)
theorem de_int {i : Int} {j pos} : DE X E (.Constant (.int i) j pos) (mp (.val (.int i))) := de_c pe_int fun _ _ => .int i
theorem de_bl {i : Bool} {j pos} : DE X E (.Constant (.bool i) j pos) (mp (.val (.bl i))) := de_c pe_bl fun _ _ => .bl i
theorem de_non {j pos} : DE X E (.Constant .none j pos) (mp (.val .non)) := de_c pe_non fun _ _ => .non
theorem de_str {x : Str} {j pos} : DE X E (.Constant (.str x) j pos) (mp (.val (.str x))) := de_c pe_str fun _ _ => .str x

/-! ### operators by values -/
def OpD (K : PySem.W.Frag) (op : D → D → Option R) (r : R2) : Prop := ∀ W F S σ H d1 d2 x y res Q, Ok K W F S σ H → Rep K W.dp F d1 x → Rep K W.dp F d2 y → op d1 d2 = some res →
  (∀ v F' H', Same F F' → Ok K W F' S σ H' → RR K W F' H' S σ res v → Q v H') → r x y H Q
def UnD (K : PySem.W.Frag) (op : D → Option R) (r : V → Hp → VK → Prop) : Prop := ∀ W F S σ H d x res Q, Ok K W F S σ H → Rep K W.dp F d x → op d = some res →
  (∀ v F' H', Same F F' → Ok K W F' S σ H' → RR K W F' H' S σ res v → Q v H') → r x H Q
def LsD (K : PySem.W.Frag) (op : List D → Option R) (r : List V → Hp → VK → Prop) : Prop := ∀ W F S σ H ds xs res Q, Ok K W F S σ H → Reps K W.dp F ds xs → op ds = some res →
  (∀ v F' H', Same F F' → Ok K W F' S σ H' → RR K W F' H' S σ res v → Q v H') → r xs H Q
theorem OpD.or {K : PySem.W.Frag} {op op' : D → D → Option R} {r r' : R2} (h : OpD K op r) (h' : OpD K op' r') : OpD K (fun a b => (op a b).or (op' a b)) (fun x y H Q => r x y H Q ∨ r' x y H Q) := by
  intro W F S σ H d1 d2 x y res Q k r1 r2 e q
  cases z : op d1 d2 with
  | some w =>
    have e' : (op d1 d2).or (op' d1 d2) = some res := e
    rw [z] at e'
    cases e'
    exact .inl (h W F S σ H d1 d2 x y _ Q k r1 r2 z q)
  | none =>
    have e' : (op d1 d2).or (op' d1 d2) = some res := e
    rw [z] at e'
    exact .inr (h' W F S σ H d1 d2 x y _ Q k r1 r2 e' q)
theorem LsD.or {K : PySem.W.Frag} {op op' : List D → Option R} {r r' : List V → Hp → VK → Prop} (h : LsD K op r) (h' : LsD K op' r') : LsD K (fun a => (op a).or (op' a)) (fun x H Q => r x H Q ∨ r' x H Q) := by
  intro W F S σ H ds xs res Q k r1 e q
  cases z : op ds with
  | some w =>
    have e' : (op ds).or (op' ds) = some res := e
    rw [z] at e'
    cases e'
    exact .inl (h W F S σ H ds xs _ Q k r1 z q)
  | none =>
    have e' : (op ds).or (op' ds) = some res := e
    rw [z] at e'
    exact .inr (h' W F S σ H ds xs _ Q k r1 e' q)
def bin (op : D → D → Option R) (f g : M R) : M R := mb f fun r => mb g fun r2 => mo (op r.d r2.d)
def una (op : D → Option R) (f : M R) : M R := mb f fun r => mo (op r.d)
theorem mo_some {K : PySem.W.Frag} {E : WX} {W : Wd} {F : Hp} {σ : L2.St} {o : Option R} {S : Sta} {Q : VK} (h : PostE K E W F σ (mo o S) Q) : ∃ r, o = some r ∧ ∀ v F' H', Same F F' → Ok K W F' S σ H' → RR K W F' H' S σ r v → Q v H' := by
  cases o with
  | none => exact h.elim
  | some r => exact ⟨r, rfl, h⟩
section
variable {a b : Expr} {f g : M R} {pos : Pos}
theorem tOp_of {op : D → D → Option R} {r : R2} (hd : OpD X.K op r) : ∀ σ H Q, tD X.K E (bin op f g) σ H Q → tOp r (tD X.K E f) (tD X.K E g) σ H Q := by
  intro σ H Q ⟨W, F, S, k, p⟩
  refine tD_bindE k p fun r1 S1 v1 F1 H1 s1 k1 rr1 p1 => ?_
  refine tD_bindE k1 p1 fun r2 S2 v2 F2 H2 s2 k2 rr2 p2 => ?_
  obtain ⟨res, e, q⟩ := mo_some p2
  exact hd W F2 S2 σ H2 _ _ v1 v2 res Q k2 (rr1.mono s2) rr2 e q
theorem de_bin {o : Operator} {op : D → D → Option R} {r : R2} (ho : OpR X (binaryOp o) r) (hd : OpD X.K op r) (ha : DE X E a f) (hb : DE X E b g) : DE X E (.BinOp a o b pos) (bin op f g) :=
  PE.mono' (pe_op ho ha hb) (tOp_of hd)
theorem de_un {o : UnaryOp} {op : D → Option R} {r : V → Hp → VK → Prop} (ho : UnR X (unaryOp o) r) (hd : UnD X.K op r) (ha : DE X E a f) : DE X E (.UnaryOp o a pos) (una op f) := by
  refine PE.mono' (pe_un ho ha) fun σ H Q ⟨W, F, S, k, p⟩ => ?_
  refine tD_bindE k p fun r1 S1 v1 F1 H1 s1 k1 rr1 p1 => ?_
  obtain ⟨res, e, q⟩ := mo_some p1
  exact hd W F1 S1 σ H1 _ v1 res Q k1 rr1 e q
theorem de_cmp {o : CmpOp} {op : D → D → Option R} {r : R2} (ho : OpR X (compareOp o) r) (hd : OpD X.K op r) (ha : DE X E a f) (hb : DE X E b g) (hm : behindInMarks o b = false) : DE X E (.Compare a [o] [b] pos) (bin op f g) :=
  PE.mono' (pe_cmpR ho ha hb hm) (tOp_of hd)
theorem de_ix {op : D → D → Option R} {r : R2} (ho : IxR X r) (hd : OpD X.K op r) (ha : DE X E a f) (hb : DE X E b g) (hs : PlainIx b) : DE X E (.Subscript a b pos) (bin op f g) :=
  PE.mono' (pe_ix ho ha hb hs) (tOp_of hd)
/-- a chain of two comparisons -/
def chain (op op' : D → D → Option R) (f g h : M R) : M R := mb f fun r1 => mb g fun r2 => mb (mo (op r1.d r2.d)) fun r3 => match r3.d with
  | .bl true => mb h fun r4 => mo (op' r2.d r4.d)
  | .bl false => mp (.val (.bl false))
  | _ => fun _ => .bad

/-! ### tests -/
def D.bool? : D → Option Bool
  | .bl b => some b
  | _ => none
def tst (f : M R) : M Bool := mb f fun r => mo r.d.bool?
theorem mo_someB {K : PySem.W.Frag} {E : WX} {W : Wd} {F : Hp} {σ : L2.St} {o : Option Bool} {S : Sta} {Q : Bool → Hp → Prop} (h : PostB K E W F σ (mo o S) Q) : ∃ r, o = some r ∧ ∀ F' H', Same F F' → Ok K W F' S σ H' → Q r H' := by
  cases o with
  | none => exact h.elim
  | some r => exact ⟨r, rfl, h⟩
theorem dt_val {e : Expr} (h : DE X E e f) (he : ∀ whole, isTrue e X.env whole = (do let v ← whole; standAt e.pos; holding [v] (truthy v)) := by intro _; rfl) : DT X E e (tst f) := by
  refine PT.mono' (pt_val h he) fun σ H Q ⟨W, F, S, k, p⟩ => ?_
  refine tD_bindB k p fun r1 S1 v1 F1 H1 s1 k1 rr1 p1 => ?_
  obtain ⟨c, e, q⟩ := mo_someB p1
  unfold D.bool? at e
  cases hd : r1.d with
  | bl b =>
    rw [hd] at e rr1
    cases e
    cases rr1
    exact ⟨_, rfl, q F1 H1 (Same.refl _) k1⟩
  | _ => rw [hd] at e; cases e
theorem dt_cmp {o : CmpOp} {op : D → D → Option R} {r : R2} (ho : OpR X (compareOp o) r) (hd : OpD X.K op r) (ha : DE X E a f) (hb : DE X E b g) (hm : behindInMarks o b = false) : DT X E (.Compare a [o] [b] pos) (tst (bin op f g)) := by
  refine PT.mono' (pt_cmpR (r := fun x y H Q => r x y H Q) ho ha hb hm) fun σ H Q ⟨W, F, S, k, p⟩ => ?_
  have hh : tD X.K E (bin op f g) σ H fun x H' => ∃ k, x = .bl k ∧ Q k H' := by
    refine tD_bindB k p fun r1 S1 v1 F1 H1 s1 k1 rr1 p1 => ?_
    obtain ⟨c, e, q⟩ := mo_someB p1
    unfold D.bool? at e
    cases hd : r1.d with
    | bl b =>
      rw [hd] at e rr1
      cases e
      cases rr1
      exact ⟨_, rfl, q F1 H1 (Same.refl _) k1⟩
    | _ => rw [hd] at e; cases e
  exact tOp_of hd σ H _ hh
def andT (c d : M Bool) : M Bool := mb c fun b => if b then d else mp false
def orT (c d : M Bool) : M Bool := mb c fun b => if b then mp true else d
def notT (c : M Bool) : M Bool := mb c fun b => mp (!b)
abbrev DW (X : Cx) (E : WX) (e : Expr) (f : M Bool) : Prop := PW X e (tT X.K E f)
theorem PW.mono' {e : Expr} {t t' : TT} (h : PW X e t) (m : ∀ σ H Q, t' σ H Q → t σ H Q) : PW X e t' := ⟨fun w pins s σ H Q I q => h.run w pins s σ H Q I (m σ H Q q)⟩
variable {c d : M Bool} {rest : List Expr}
theorem dw_and1 (ha : DT X E a c) : DW X E (.BoolOp .And [a] pos) c := pw_and1 ha
theorem dw_or1 (ha : DT X E a c) : DW X E (.BoolOp .Or [a] pos) c := pw_or1 ha
theorem dw_and (ha : DT X E a c) (hb : DW X E (.BoolOp .And (b :: rest) pos) d) : DW X E (.BoolOp .And (a :: b :: rest) pos) (andT c d) := by
  refine PW.mono' (pw_and ha hb) fun σ H Q ⟨W, F, S, k, p⟩ => ?_
  refine tT_bindB k p fun b S1 F1 H1 s1 k1 p1 => ?_
  cases b with
  | true => exact ⟨W, F1, S1, k1, p1⟩
  | false => exact p1 F1 H1 (Same.refl _) k1
theorem dw_or (ha : DT X E a c) (hb : DW X E (.BoolOp .Or (b :: rest) pos) d) : DW X E (.BoolOp .Or (a :: b :: rest) pos) (orT c d) := by
  refine PW.mono' (pw_or ha hb) fun σ H Q ⟨W, F, S, k, p⟩ => ?_
  refine tT_bindB k p fun b S1 F1 H1 s1 k1 p1 => ?_
  cases b with
  | true => exact p1 F1 H1 (Same.refl _) k1
  | false => exact ⟨W, F1, S1, k1, p1⟩
theorem dt_w {e : Expr} (h : DW X E e c) : DT X E e c := PW.pt h
theorem dt_not (ha : DT X E a c) : DT X E (.UnaryOp .Not a pos) (notT c) := by
  refine PT.mono' (pt_not ha) fun σ H Q ⟨W, F, S, k, p⟩ => ?_
  refine tT_bindB k p fun b S1 F1 H1 s1 k1 p1 => ?_
  exact p1 F1 H1 (Same.refl _) k1
/-- as values: the first a bool -/
def andV (f g : M R) : M R := mb (tst f) fun b => if b then g else mp (.val (.bl false))
def orV (f g : M R) : M R := mb (tst f) fun b => if b then mp (.val (.bl true)) else g
def notV (f : M R) : M R := mb (tst f) fun b => mp (.val (.bl (!b)))
theorem tst_of {σ : L2.St} {H : Hp} {Q : Bool → Hp → Prop} {k : Bool → M R} {Q' : VK} {W : Wd} {F : Hp} {S : Sta} (hk : Ok X.K W F S σ H) (p : PostE X.K E W F σ (mb (tst f) k S) Q')
    (ho : ∀ b S' F' H', Same F F' → Ok X.K W F' S' σ H' → PostE X.K E W F' σ (k b S') Q' → Q b H') : tD X.K E f σ H fun x H1 => ∃ c, x = .bl c ∧ Q c H1 := by
  have e : mb (tst f) k S = mb f (fun r => mb (mo r.d.bool?) k) S := by
    unfold tst mb
    cases f S <;> rfl
  rw [e] at p
  refine tD_bindE hk p fun r1 S1 v1 F1 H1 s1 k1 rr1 p1 => ?_
  cases hd : r1.d with
  | bl b =>
    rw [hd] at p1 rr1
    cases rr1
    exact ⟨_, rfl, ho b S1 F1 H1 s1 k1 p1⟩
  | _ => rw [hd] at p1; exact p1.elim
theorem de_one {op} (h : DE X E a f) : DE X E (.BoolOp op [a] pos) f := pe_one h
theorem de_and (ha : DE X E a f) (hb : DE X E (.BoolOp .And (b :: rest) pos) g) : DE X E (.BoolOp .And (a :: b :: rest) pos) (andV f g) := by
  refine PE.mono' (pe_and ha hb) fun σ H Q ⟨W, F, S, k, p⟩ => ?_
  refine tst_of k p fun b S1 F1 H1 s1 k1 p1 => ?_
  cases b with
  | true => exact ⟨W, F1, S1, k1, p1⟩
  | false => exact p1 _ F1 H1 (Same.refl _) k1 (.bl _)
theorem de_or (ha : DE X E a f) (hb : DE X E (.BoolOp .Or (b :: rest) pos) g) : DE X E (.BoolOp .Or (a :: b :: rest) pos) (orV f g) := by
  refine PE.mono' (pe_or ha hb) fun σ H Q ⟨W, F, S, k, p⟩ => ?_
  refine tst_of k p fun b S1 F1 H1 s1 k1 p1 => ?_
  cases b with
  | true => exact p1 _ F1 H1 (Same.refl _) k1 (.bl _)
  | false => exact ⟨W, F1, S1, k1, p1⟩
theorem de_not (ha : DE X E a f) : DE X E (.UnaryOp .Not a pos) (notV f) := by
  refine PE.mono' (pe_not ha) fun σ H Q ⟨W, F, S, k, p⟩ => ?_
  refine tst_of k p fun b S1 F1 H1 s1 k1 p1 => ?_
  exact p1 _ F1 H1 (Same.refl _) k1 (.bl _)
def iteM {α : Type} (c : M Bool) (f g : M α) : M α := mb c fun b => if b then f else g
theorem de_if {t : Expr} (hc : DT X E t c) (ha : DE X E a f) (hb : DE X E b g) : DE X E (.IfExp t a b pos) (iteM c f g) := by
  refine PE.mono' (pe_ifExp hc ha hb) fun σ H Q ⟨W, F, S, k, p⟩ => ?_
  refine tT_bindE k p fun b S1 F1 H1 s1 k1 p1 => ?_
  cases b with
  | true => exact ⟨W, F1, S1, k1, p1⟩
  | false => exact ⟨W, F1, S1, k1, p1⟩

/-! ### argument lists, displays -/
def aCons (f : M R) (g : M (List D)) : M (List D) := mb f fun r => mb g fun ds => mp (r.d :: ds)
variable {es : List Expr} {ga : M (List D)}
theorem da_nil : DA X E [] (mp []) := PA.mono' pa_nil fun σ H Q ⟨W, F, S, k, p⟩ => p [] F H (Same.refl _) k .nil
theorem da_cons (ha : DE X E a f) (hr : DA X E es ga) (hs : starEach (a :: es) X.env = (false, eval a X.env) :: starEach es X.env := by rfl) : DA X E (a :: es) (aCons f ga) := by
  refine PA.mono' (pa_cons ha hr hs) fun σ H Q ⟨W, F, S, k, p⟩ => ?_
  refine tD_bindA k p fun r1 S1 v1 F1 H1 s1 k1 rr1 p1 => ?_
  refine tA_bindA k1 p1 fun ds S2 vs F2 H2 s2 k2 rr2 p2 => ?_
  exact p2 _ F2 H2 (Same.refl _) k2 (.cons (rr1.mono s2) rr2)
def mkT (g : M (List D)) : M R := mb g fun ds => if ds.length ≤ sizeLine then mp (.val (.tup ds)) else fun _ => .bad
def mkL (g : M (List D)) : M R := mb g fun ds => if ds.length ≤ sizeLine then mp (.own (.lst ds)) else fun _ => .bad
theorem de_tup {x1} (h : DA X E es ga) : DE X E (.Tuple es x1 pos) (mkT ga) := by
  refine PE.mono' (pe_tup h) fun σ H Q ⟨W, F, S, k, p⟩ => ?_
  refine tA_bind k p fun ds S1 vs F1 H1 s1 k1 rr p1 => ?_
  by_cases hz : ds.length ≤ sizeLine
  · rw [if_pos hz] at p1
    refine ⟨by rw [← rr.length]; exact hz, fun q hq => ?_⟩
    obtain ⟨s2, k2⟩ := k1.newF (o := .tup vs) hq
    exact p1 _ _ _ s2 k2 (.tup (.inl (.inl upd_same)) (rr.mono s2))
  · rw [if_neg hz] at p1; exact p1.elim
theorem de_lst (h : DA X E es ga) : DE X E (.List es pos) (mkL ga) := by
  refine PE.mono' (pe_lst h) fun σ H Q ⟨W, F, S, k, p⟩ => ?_
  refine tA_bind k p fun ds S1 vs F1 H1 s1 k1 rr p1 => ?_
  by_cases hz : ds.length ≤ sizeLine
  · rw [if_pos hz] at p1
    refine ⟨by rw [← rr.length]; exact hz, fun q hq => ?_⟩
    exact p1 _ F1 _ (Same.refl _) (k1.newO hq) (k1.ownNew hq ⟨vs, rfl, rr⟩)
  · rw [if_neg hz] at p1; exact p1.elim

/-! ### calls of what is built in -/
def lsM (op : List D → Option R) (g : M (List D)) : M R := mb g fun ds => mo (op ds)
theorem tLs_of {op : List D → Option R} {r : List V → Hp → VK → Prop} (hd : LsD X.K op r) : ∀ σ H Q, tD X.K E (lsM op ga) σ H Q → tA X.K E ga σ H fun vs H1 => r vs H1 Q := by
  intro σ H Q ⟨W, F, S, k, p⟩
  refine tA_bind k p fun ds S1 vs F1 H1 s1 k1 rr p1 => ?_
  obtain ⟨res, e, q⟩ := mo_some p1
  exact hd W F1 S1 σ H1 ds vs res Q k1 rr e q
end
end
end DD

end
section
set_option Elab.async false
set_option Elab.async false
set_option linter.all false
set_option maxRecDepth 100000
set_option maxHeartbeats 2000000
set_option autoImplicit false
namespace DD
open PySem PySem.Spec PyProof.Rows L2

inductive Fl where
  | nx | ret (r : R) | brk | cnt
section
variable (K : PySem.W.Frag) (E : WX)
def PostS (W : Wd) (F : Hp) (D : Ends) (r : Res Fl) : Prop := match r with
  | .ok .nx S' => ∀ σ' F' H', Same F F' → Ok K W F' S' σ' H' → D.nx σ' H'
  | .ok (.ret r) S' => ∀ v σ' F' H', Same F F' → Ok K W F' S' σ' H' → RR K W F' H' S' σ' r v → D.rt v H'
  | .ok .brk S' => ∀ σ' F' H', Same F F' → Ok K W F' S' σ' H' → D.bk σ' H'
  | .ok .cnt S' => ∀ σ' F' H', Same F F' → Ok K W F' S' σ' H' → D.ct σ' H'
  | .exc x S' => ∀ σ', PostX K E W F x S' σ'
  | .bad => False
def tS (f : M Fl) : TS := fun D σ H => ∃ W F S, Ok K W F S σ H ∧ PostS K E W F D (f S)
/-- the slots beside those told are as they were -/
def Touch (is : List Nat) (σ σ' : L2.St) : Prop := σ'.length = σ.length ∧ ∀ j : Nat, j ∉ is → σ'[j]? = σ[j]?
def PostG (W : Wd) (F : Hp) (is : List Nat) (σ : L2.St) (r : Res Unit) (Q : L2.St → Hp → Prop) : Prop := match r with
  | .ok _ S' => ∀ σ' F' H', Touch is σ σ' → Same F F' → Ok K W F' S' σ' H' → Q σ' H'
  | .exc x S' => ∀ σ', PostX K E W F x S' σ'
  | .bad => False
def tG (is : List Nat) (f : R → M Unit) : TG := fun v σ H Q => ∃ W F S r, Ok K W F S σ H ∧ RR K W F H S σ r v ∧ PostG K E W F is σ (f r S) Q
def tGs (is : List Nat) (f : List D → M Unit) : TGs := fun vs σ H Q => ∃ W F S ds, Ok K W F S σ H ∧ Reps K W.dp F ds vs ∧ PostG K E W F is σ (f ds S) Q
end
section
variable {K : PySem.W.Frag} {E : WX} {W : Wd} {F F1 : Hp} {σ : L2.St}
theorem PostS.mono {D : Ends} {r : Res Fl} (s : Same F F1) (h : PostS K E W F D r) : PostS K E W F1 D r := by
  cases r with
  | ok r S' =>
    cases r with
    | nx => exact fun v F' H' s' => h v F' H' (s.trans s')
    | ret r => exact fun v σ' F' H' s' => h v σ' F' H' (s.trans s')
    | brk => exact fun v F' H' s' => h v F' H' (s.trans s')
    | cnt => exact fun v F' H' s' => h v F' H' (s.trans s')
  | exc x S' => exact fun σ' => PostX.mono s (h σ')
  | bad => exact h
theorem Touch.refl (is : List Nat) (σ : L2.St) : Touch is σ σ := ⟨rfl, fun _ _ => rfl⟩
theorem Touch.trans {is js : List Nat} {σ σ1 σ2 : L2.St} (a : Touch is σ σ1) (b : Touch js σ1 σ2) : Touch (is ++ js) σ σ2 :=
  ⟨b.1.trans a.1, fun j h => (b.2 j fun z => h (List.mem_append_right _ z)).trans (a.2 j fun z => h (List.mem_append_left _ z))⟩
theorem Touch.set {i : Nat} {σ : L2.St} {v : Option V} : Touch [i] σ (σ.set i v) := ⟨by simp, fun j h => by
  rw [List.getElem?_set_ne]
  intro z
  exact h (by simp [z])⟩
theorem PostG.mono {is : List Nat} {r : Res Unit} {Q : L2.St → Hp → Prop} (s : Same F F1) (h : PostG K E W F is σ r Q) : PostG K E W F1 is σ r Q := by
  cases r with
  | ok r S' => exact fun v F' H' t s' => h v F' H' t (s.trans s')
  | exc x S' => exact fun σ' => PostX.mono s (h σ')
  | bad => exact h
theorem tD_bindS {f : M R} {g : R → M Fl} {S : Sta} {H : Hp} {Q : VK} {D : Ends} (k : Ok K W F S σ H) (hp : PostS K E W F D (mb f g S))
    (ho : ∀ r S' v F' H', Same F F' → Ok K W F' S' σ H' → RR K W F' H' S' σ r v → PostS K E W F' D (g r S') → Q v H') : tD K E f σ H Q := by
  refine ⟨W, F, S, k, ?_⟩
  unfold mb at hp
  cases e : f S with
  | ok ds S' => rw [e] at hp; exact fun v F' H' s k' rr => ho ds S' v F' H' s k' rr (PostS.mono s hp)
  | exc x S' => rw [e] at hp; exact hp σ
  | bad => rw [e] at hp; exact hp
theorem tA_bindS {f : M (List D)} {g : List D → M Fl} {S : Sta} {H : Hp} {Q : List V → Hp → Prop} {D : Ends} (k : Ok K W F S σ H) (hp : PostS K E W F D (mb f g S))
    (ho : ∀ ds S' vs F' H', Same F F' → Ok K W F' S' σ H' → Reps K W.dp F' ds vs → PostS K E W F' D (g ds S') → Q vs H') : tA K E f σ H Q := by
  refine ⟨W, F, S, k, ?_⟩
  unfold mb at hp
  cases e : f S with
  | ok ds S' => rw [e] at hp; exact fun v F' H' s k' rr => ho ds S' v F' H' s k' rr (PostS.mono s hp)
  | exc x S' => rw [e] at hp; exact hp σ
  | bad => rw [e] at hp; exact hp
theorem tT_bindS {f : M Bool} {g : Bool → M Fl} {S : Sta} {H : Hp} {Q : Bool → Hp → Prop} {D : Ends} (k : Ok K W F S σ H) (hp : PostS K E W F D (mb f g S))
    (ho : ∀ b S' F' H', Same F F' → Ok K W F' S' σ H' → PostS K E W F' D (g b S') → Q b H') : tT K E f σ H Q := by
  refine ⟨W, F, S, k, ?_⟩
  unfold mb at hp
  cases e : f S with
  | ok ds S' => rw [e] at hp; exact fun F' H' s k' => ho ds S' F' H' s k' (PostS.mono s hp)
  | exc x S' => rw [e] at hp; exact hp σ
  | bad => rw [e] at hp; exact hp
theorem tG_bindS {is : List Nat} {f : R → M Unit} {r : R} {v : V} {g : Unit → M Fl} {S : Sta} {H : Hp} {Q : L2.St → Hp → Prop} {D : Ends} (k : Ok K W F S σ H) (rr : RR K W F H S σ r v) (hp : PostS K E W F D (mb (f r) g S))
    (ho : ∀ S' σ' F' H', Same F F' → Ok K W F' S' σ' H' → PostS K E W F' D (g () S') → Q σ' H') : tG K E is f v σ H Q := by
  refine ⟨W, F, S, r, k, rr, ?_⟩
  unfold mb at hp
  cases e : f r S with
  | ok ds S' => rw [e] at hp; exact fun σ' F' H' _ s k' => ho S' σ' F' H' s k' (PostS.mono s hp)
  | exc x S' => rw [e] at hp; exact hp
  | bad => rw [e] at hp; exact hp
end

section
variable {X : Cx} {E : WX}
theorem PS.mono' {e : Stmt} {t t' : TS} (h : PS X e t) (m : ∀ D σ H, t' D σ H → t D σ H) : PS X e t' := ⟨fun pins s σ H D I q => h.run pins s σ H D I (m D σ H q)⟩
theorem PSs.mono' {e : List Stmt} {t t' : TS} (h : PSs X e t) (m : ∀ D σ H, t' D σ H → t D σ H) : PSs X e t' := ⟨fun pins s σ H D I q => h.run pins s σ H D I (m D σ H q)⟩
theorem PG.mono' {e : Expr} {t t' : TG} (h : PG X e t) (m : ∀ v σ H Q, t' v σ H Q → t v σ H Q) : PG X e t' := ⟨fun pins s σ H v u Q I r q => h.run pins s σ H v u Q I r (m v σ H Q q)⟩
theorem PGs.mono' {e : List Expr} {t t' : TGs} (h : PGs X e t) (m : ∀ v σ H Q, t' v σ H Q → t v σ H Q) : PGs X e t' := ⟨fun pins s σ H v u Q I r q => h.run pins s σ H v u Q I r (m v σ H Q q)⟩
abbrev DS (X : Cx) (E : WX) (e : Stmt) (f : M Fl) : Prop := PS X e (tS X.K E f)
abbrev DSs (X : Cx) (E : WX) (e : List Stmt) (f : M Fl) : Prop := PSs X e (tS X.K E f)
abbrev DG (X : Cx) (E : WX) (e : Expr) (is : List Nat) (f : R → M Unit) : Prop := PG X e (tG X.K E is f)
abbrev DGs (X : Cx) (E : WX) (e : List Expr) (is : List Nat) (f : List D → M Unit) : Prop := PGs X e (tGs X.K E is f)

def seqS (f g : M Fl) : M Fl := mb f fun fl => match fl with
  | .nx => g
  | .ret r => mp (.ret r)
  | .brk => mp .brk
  | .cnt => mp .cnt
def exprS (f : M R) : M Fl := mb f fun _ => mp .nx
def retS (f : M R) : M Fl := mb f fun r => mp (.ret r)
def put (i : Nat) (r : R) : M Unit := fun S => if i < S.sl.length then .ok () { S with sl := S.sl.set i r.slot } else .bad
def setS (i : Nat) (f : M R) : M Fl := mb f fun r => mb (put i r) fun _ => mp .nx
def ifS (c : M Bool) (f g : M Fl) : M Fl := mb c fun b => if b then f else g
def asgS (f : M R) (tg : R → M Unit) : M Fl := mb f fun r => mb (tg r) fun _ => mp .nx

variable {st : Stmt} {sts : List Stmt} {e : Expr} {f : M R} {g h : M Fl} {c : M Bool} {pos : Pos}
theorem dss_nil : DSs X E [] (mp .nx) := PSs.mono' pss_nil fun D σ H ⟨W, F, S, k, p⟩ => p σ F H (Same.refl _) k
theorem dss_one (h1 : DS X E st g) : DSs X E [st] g := pss_one h1
theorem dss_cons (h1 : DS X E st g) (h2 : DSs X E sts h) : DSs X E (st :: sts) (seqS g h) := by
  refine PSs.mono' (pss_cons h1 h2) fun D σ H ⟨W, F, S, k, p⟩ => ⟨W, F, S, k, ?_⟩
  unfold seqS mb at p
  cases e : g S with
  | ok fl S' =>
    rw [e] at p
    cases fl with
    | nx => exact fun σ' F' H' s k' => ⟨W, F', S', k', PostS.mono s p⟩
    | ret r => exact p
    | brk => exact p
    | cnt => exact p
  | exc x S' => rw [e] at p; exact p
  | bad => rw [e] at p; exact p
theorem ds_expr (he : DE X E e f) (hs : swapsWith e none pos.line X.env = pure false := by rfl) : DS X E (.Expr e pos) (exprS f) := by
  refine PS.mono' (ps_expr he hs) fun D σ H ⟨W, F, S, k, p⟩ => ?_
  exact tD_bindS k p fun r S' v F' H' s k' rr p' => p' σ F' H' (Same.refl _) k'
theorem ds_doc {x j pos' } : DS X E (.Expr (.Constant (.str x) j pos) pos') (mp .nx) := PS.mono' ps_doc fun D σ H ⟨W, F, S, k, p⟩ => p σ F H (Same.refl _) k
theorem ds_ret (he : DE X E e f) : DS X E (.Return (some e) pos) (retS f) := by
  refine PS.mono' (ps_ret he) fun D σ H ⟨W, F, S, k, p⟩ => ?_
  exact tD_bindS k p fun r S' v F' H' s k' rr p' => p' v σ F' H' (Same.refl _) k' rr
theorem ds_retN : DS X E (.Return none pos) (mp (.ret (.val .non))) := PS.mono' ps_retN fun D σ H ⟨W, F, S, k, p⟩ => p .non σ F H (Same.refl _) k .non
theorem ds_pass : DS X E (.Pass pos) (mp .nx) := PS.mono' ps_pass fun D σ H ⟨W, F, S, k, p⟩ => p σ F H (Same.refl _) k
theorem ds_break : DS X E (.Break pos) (mp .brk) := PS.mono' ps_break fun D σ H ⟨W, F, S, k, p⟩ => p σ F H (Same.refl _) k
theorem ds_continue : DS X E (.Continue pos) (mp .cnt) := PS.mono' ps_continue fun D σ H ⟨W, F, S, k, p⟩ => p σ F H (Same.refl _) k
theorem ds_if {t : Expr} {a b : List Stmt} (hc : DT X E t c) (ha : DSs X E a g) (hb : DSs X E b h) : DS X E (.If t a b pos) (ifS c g h) := by
  refine PS.mono' (ps_if hc ha hb) fun D σ H ⟨W, F, S, k, p⟩ => ?_
  refine tT_bindS k p fun b S' F' H' s k' p' => ?_
  cases b with
  | true => exact ⟨W, F', S', k', p'⟩
  | false => exact ⟨W, F', S', k', p'⟩
theorem put_ok {W : Wd} {F H : Hp} {S : Sta} {σ : L2.St} {i : Nat} {r : R} {v : V} {D : Ends} (k : Ok X.K W F S σ H) (rr : RR X.K W F H S σ r v) (p : PostS X.K E W F D (mb (put i r) (fun _ => mp .nx) S)) : D.nx (σ.set i (some v)) H := by
  unfold mb put at p
  by_cases hi : i < S.sl.length
  · rw [if_pos hi] at p
    exact p _ F H (Same.refl _) (k.store hi rr)
  · rw [if_neg hi] at p
    exact p.elim
theorem ds_set {i : Nat} {x : Str} {pos' : Pos} (hN : X.N.Nodup) (hi : X.N[i]? = some x) (hx : Loc X.env.scope x) (he : DE X E e f) (hs : swapsWith e (some (.Name x pos')) pos.line X.env = pure false := by rfl) (hf : X.fn x = true ∨ X.env.scope.names.lookup x = some .local := by first | exact .inl rfl | exact .inr rfl | assumption) :
    DS X E (.Assign [.Name x pos'] e pos) (setS i f) := by
  refine PS.mono' (ps_set hN hi hx he hs hf) fun D σ H ⟨W, F, S, k, p⟩ => ?_
  exact tD_bindS k p fun r S' v F' H' s k' rr p' => put_ok k' rr p'
/-- name op= e -/
def augS (i : Nat) (op : D → D → Option R) (f : M R) : M Fl := mb (rd i) fun r => mb f fun r2 => mb (mo (op r.d r2.d)) fun r3 => mb (put i r3) fun _ => mp .nx
theorem ds_aug {i : Nat} {x : Str} {o : Operator} {op : D → D → Option R} {r : R2} {pos' : Pos} (hN : X.N.Nodup) (hi : X.N[i]? = some x) (hx : Loc X.env.scope x) (he : DE X E e f) (ho : OpR X (inplaceOp o) r) (hd : OpD X.K op r)
    (hf : X.fn x = true ∨ X.env.scope.names.lookup x = some .local := by first | exact .inl rfl | exact .inr rfl | assumption) : DS X E (.AugAssign (.Name x pos') o e pos) (augS i op f) := by
  have hp : PIp X o (fun x y H Q => r x y H Q) := fun pins s σ H x y v u Q I r1 r2 q => ho pins s σ H x y v u Q I r1 r2 q
  refine PS.mono' (ps_aug hN hi hx he hp hf) fun D σ H ⟨W, F, S, k, p⟩ => ?_
  unfold augS mb rd at p
  have go : ∀ d S1 F1 v, Same F F1 → Ok X.K W F1 S1 σ H → σ[i]? = some (some v) → Rep X.K W.dp F1 d v → PostS X.K E W F1 D (mb f (fun r2 => mb (mo (op d r2.d)) fun r3 => mb (put i r3) fun _ => mp .nx) S1) → tAug i (tD X.K E f) (fun x y H Q => r x y H Q) D σ H := by
    intro d S1 F1 v s1 k1 q1 rr1 p1
    refine ⟨v, q1, tD_bindS k1 p1 fun r2 S2 v2 F2 H2 s2 k2 rr2 p2 => ?_⟩
    obtain ⟨F3, s3, k3, rr3⟩ := rr2.freeze k2
    have p3 := PostS.mono s3 p2
    cases e3 : op d r2.d with
    | none => rw [e3] at p3; exact p3.elim
    | some r3 =>
      rw [e3] at p3
      exact hd W F3 S2 σ H2 d r2.d v v2 r3 _ k3 (rr1.mono (s2.trans s3)) rr3 e3 fun v4 F4 H4 s4 k4 rr4 => put_ok k4 rr4 (PostS.mono s4 p3)
  cases e1 : S.sl[i]? with
  | none => rw [e1] at p; exact p.elim
  | some sl =>
    rw [e1] at p
    cases sl with
    | un => exact p.elim
    | val d =>
      obtain ⟨v, q, rr⟩ := k.sl i _ e1
      exact go d S F v (Same.refl _) k q rr p
    | own o =>
      obtain ⟨F', v, s', q, k', rr⟩ := k.frzSlot e1
      exact go _ _ F' v s' k' q rr (PostS.mono s' p)
/-- a, b = e1, e2 -/
def parS (i j : Nat) (f g : M R) : M Fl := mb f fun r1 => mb g fun r2 => mb (put i (.val r1.d)) fun _ => mb (put j (.val r2.d)) fun _ => mp .nx
theorem put2_ok {W : Wd} {F H : Hp} {S : Sta} {σ : L2.St} {i j : Nat} {d1 d2 : D} {v w : V} {D : Ends} (k : Ok X.K W F S σ H) (r1 : Rep X.K W.dp F d1 v) (r2 : Rep X.K W.dp F d2 w)
    (p : PostS X.K E W F D (mb (put i (.val d1)) (fun _ => mb (put j (.val d2)) fun _ => mp .nx) S)) : D.nx ((σ.set i (some v)).set j (some w)) H := by
  unfold mb put at p
  by_cases hi : i < S.sl.length
  · rw [if_pos hi] at p
    exact put_ok (k.store (r := .val d1) hi r1) (r := .val d2) r2 p
  · rw [if_neg hi] at p
    exact p.elim
theorem ds_par {i j : Nat} {x y : Str} {a b : Expr} {f g : M R} {px py pt : Pos} {kt k2 pt2} (hc : X.calm = true) (hN : X.N.Nodup) (hi : X.N[i]? = some x) (hj : X.N[j]? = some y) (hij : i ≠ j)
    (hx : X.env.scope.names.lookup x = some .local) (hy : X.env.scope.names.lookup y = some .local) (ha : DE X E a f) (hb : DE X E b g)
    (hw : swappedStores [.Tuple [.Name x px, .Name y py] kt pt] (.Tuple [a, b] k2 pt2) X.env = pure (some [x, y]) := by rfl)
    (h1 : starEach [a, b] X.env = (false, eval a X.env) :: starEach [b] X.env := by rfl) (h2 : starEach [b] X.env = (false, eval b X.env) :: starEach [] X.env := by rfl)
    (hs : swapsWithSole [.Tuple [.Name x px, .Name y py] kt pt] (.Tuple [a, b] k2 pt2) pos.line X.env = pure false := by rfl) :
    DS X E (.Assign [.Tuple [.Name x px, .Name y py] kt pt] (.Tuple [a, b] k2 pt2) pos) (parS i j f g) := by
  refine PS.mono' (ps_par hc hN hi hj hij hx hy (pa_cons ha (pa_cons hb pa_nil h2) h1) hw hs) fun D σ H ⟨W, F, S, k, p⟩ => ?_
  refine tD_bindS k p fun r1 S1 v1 F1 H1 s1 k1 rr1 p1 => ?_
  obtain ⟨F1', s1', k1', rr1'⟩ := rr1.freeze k1
  refine tD_bindS k1' (PostS.mono s1' p1) fun r2 S2 v2 F2 H2 s2 k2 rr2 p2 => ?_
  obtain ⟨F2', s2', k2', rr2'⟩ := rr2.freeze k2
  exact ⟨v1, v2, rfl, put2_ok k2' (rr1'.mono (s2.trans s2')) rr2' (PostS.mono s2' p2)⟩
/-- .. where the second keeps what it owns (a, b = x, []) -/
def parS2 (i j : Nat) (f g : M R) : M Fl := mb f fun r1 => mb g fun r2 => mb (put i (.val r1.d)) fun _ => mb (put j r2) fun _ => mp .nx

/-! ### targets -/
def tgN (i : Nat) : R → M Unit := fun r => put i r
def tgNil : List D → M Unit := fun ds => match ds with
  | [] => mp ()
  | _ :: _ => fun _ => .bad
def tgCons (t : R → M Unit) (ts : List D → M Unit) : List D → M Unit := fun ds => match ds with
  | [] => fun _ => .bad
  | d :: r => mb (t (.val d)) fun _ => ts r
def tgT (n : Nat) (ts : List D → M Unit) : R → M Unit := fun r => match r.d with
  | .tup ds => if ds.length = n then ts ds else fun _ => .bad
  | _ => fun _ => .bad
def tgL (n : Nat) (ts : List D → M Unit) : R → M Unit := fun r => match r.d with
  | .lst ds => if ds.length = n then ts ds else fun _ => .bad
  | _ => fun _ => .bad
theorem dg_name {i : Nat} {x : Str} (hN : X.N.Nodup) (hi : X.N[i]? = some x) (hx : Loc X.env.scope x) (hf : X.fn x = true ∨ X.env.scope.names.lookup x = some .local := by first | exact .inl rfl | exact .inr rfl | assumption) : DG X E (.Name x pos) [i] (tgN i) := by
  refine PG.mono' (pg_name hN hi hx hf) fun v σ H Q ⟨W, F, S, r, k, rr, p⟩ => ?_
  unfold tgN put at p
  by_cases hi : i < S.sl.length
  · rw [if_pos hi] at p
    exact p _ F H Touch.set (Same.refl _) (k.store hi rr)
  · rw [if_neg hi] at p
    exact p.elim
theorem dgs_nil : DGs X E [] [] tgNil := by
  refine PGs.mono' pgs_nil fun vs σ H Q ⟨W, F, S, ds, k, rr, p⟩ => ?_
  cases rr with
  | nil => exact ⟨rfl, p σ F H (Touch.refl _ _) (Same.refl _) k⟩
  | cons _ _ => exact p.elim
theorem dgs_cons {es : List Expr} {is js : List Nat} {t : R → M Unit} {ts : List D → M Unit} (h1 : DG X E e is t) (h2 : DGs X E es js ts) (hs : (assignEach (e :: es) X.env).map (·.2) = assign e X.env :: (assignEach es X.env).map (·.2) := by rfl) : DGs X E (e :: es) (is ++ js) (tgCons t ts) := by
  refine PGs.mono' (pgs_cons h1 h2 hs) fun vs σ H Q ⟨W, F, S, ds, k, rr, p⟩ => ?_
  cases rr with
  | nil => exact p.elim
  | @cons d ds v vs r rs =>
    refine ⟨v, vs, rfl, W, F, S, .val d, k, r, ?_⟩
    unfold tgCons mb at p
    cases e1 : t (.val d) S with
    | ok u S' =>
      simp only [e1] at p
      refine fun σ' F' H' t1 s k' => ⟨W, F', S', ds, k', rs.mono s, ?_⟩
      cases e2 : ts ds S' with
      | ok u S2 => rw [e2] at p; exact fun σ2 F2 H2 t2 s2 k2 => p σ2 F2 H2 (t1.trans t2) (s.trans s2) k2
      | exc x S2 => rw [e2] at p; exact fun σ2 => PostX.mono s (p σ2)
      | bad => rw [e2] at p; exact p
    | exc x S' => simp only [e1] at p; exact p
    | bad => simp only [e1] at p; exact p
theorem Rep.tupV {K : PySem.W.Frag} {dp : Addr} {F : Hp} {ds : List D} {v : V} (h : Rep K dp F (.tup ds) v) : ∃ a vs, v = .ref a ∧ SqT K F a vs ∧ Reps K dp F ds vs := by
  cases h with
  | tup h r => exact ⟨_, _, rfl, h, r⟩
theorem Rep.lstV {K : PySem.W.Frag} {dp : Addr} {F : Hp} {ds : List D} {v : V} (h : Rep K dp F (.lst ds) v) : ∃ a vs, v = .ref a ∧ F a = some (.lst vs) ∧ Reps K dp F ds vs := by
  cases h with
  | lst h r => exact ⟨_, _, rfl, h, r⟩
theorem dg_tup {es : List Expr} {k : Nat} {is : List Nat} {ts : List D → M Unit} {n : Nat} (hc : X.calm = true) (h : DGs X E es is ts) (hn : (assignEach es X.env).length = n := by rfl) (hst : (assignEach es X.env).findIdx? (·.1) = none := by rfl) : DG X E (.Tuple es k pos) is (tgT n ts) := by
  refine PG.mono' (pg_tup hc h hn hst) fun v σ H Q ⟨W, F, S, r, k, rr, p⟩ => ?_
  obtain ⟨F1, s1, k1, rr1⟩ := rr.freeze k
  unfold tgT at p
  cases hd : r.d with
  | tup ds =>
    rw [hd] at rr1
    simp only [hd] at p
    obtain ⟨a, vs, rfl, hq, rs⟩ := rr1.tupV
    by_cases hl : ds.length = n
    · rw [if_pos hl] at p
      exact ⟨a, vs, rfl, Same.seqT k1.fh hq, by rw [← rs.length]; exact hl, W, F1, S, ds, k1, rs, PostG.mono s1 p⟩
    · rw [if_neg hl] at p; exact p.elim
  | _ => simp only [hd] at p; exact p.elim
theorem dg_lst {es : List Expr} {k : Nat} {is : List Nat} {ts : List D → M Unit} {n : Nat} (hc : X.calm = true) (h : DGs X E es is ts) (hn : (assignEach es X.env).length = n := by rfl) (hst : (assignEach es X.env).findIdx? (·.1) = none := by rfl) : DG X E (.Tuple es k pos) is (tgL n ts) := by
  refine PG.mono' (pg_lst hc h hn hst) fun v σ H Q ⟨W, F, S, r, k, rr, p⟩ => ?_
  obtain ⟨F1, s1, k1, rr1⟩ := rr.freeze k
  unfold tgL at p
  cases hd : r.d with
  | lst ds =>
    rw [hd] at rr1
    simp only [hd] at p
    obtain ⟨a, vs, rfl, hq, rs⟩ := rr1.lstV
    by_cases hl : ds.length = n
    · rw [if_pos hl] at p
      exact ⟨a, vs, rfl, .inl (.inl (k1.fh _ _ hq)), by rw [← rs.length]; exact hl, W, F1, S, ds, k1, rs, PostG.mono s1 p⟩
    · rw [if_neg hl] at p; exact p.elim
  | _ => simp only [hd] at p; exact p.elim
theorem ds_asg {tg : Expr} {is : List Nat} {t : R → M Unit} (he : DE X E e f) (hg : DG X E tg is t) (hs : swapsWithSole [tg] e pos.line X.env = pure false := by rfl) (hw : swappedStores [tg] e X.env = pure none := by rfl)
    (h1 : (assignEach [tg] X.env).map (·.2) = [assign tg X.env] := by rfl) : DS X E (.Assign [tg] e pos) (asgS f t) := by
  refine PS.mono' (ps_asg he hg hs hw h1) fun D σ H ⟨W, F, S, k, p⟩ => ?_
  refine tD_bindS k p fun r S1 v F1 H1 s1 k1 rr p1 => ?_
  exact tG_bindS k1 rr p1 fun S2 σ2 F2 H2 s2 k2 p2 => p2 σ2 F2 H2 (Same.refl _) k2

/-! ### while -/
def whileN (c : M Bool) (g : M Fl) : Nat → M Fl
  | 0 => fun _ => .bad
  | n + 1 => mb c fun b => if b then mb g fun fl => match fl with
      | .nx => whileN c g n
      | .cnt => whileN c g n
      | .brk => mp .nx
      | .ret r => mp (.ret r)
    else mp .nx
theorem whileN_mono {c : M Bool} {g : M Fl} : ∀ {n : Nat} {S : Sta} {r : Res Fl}, whileN c g n S = r → r ≠ .bad → whileN c g (n + 1) S = r
  | 0, S, r, h, hr => by exact absurd h.symm hr
  | n + 1, S, r, h, hr => by
    unfold whileN mb at h ⊢
    cases e : c S with
    | ok b S1 =>
      simp only [e] at h ⊢
      cases b with
      | false => exact h
      | true =>
        simp only [if_true] at h ⊢
        cases e2 : g S1 with
        | ok fl S2 =>
          simp only [mb, e2] at h ⊢
          cases fl with
          | nx => exact whileN_mono h hr
          | cnt => exact whileN_mono h hr
          | brk => exact h
          | ret r => exact h
        | exc x S2 => simp only [mb, e2] at h ⊢; exact h
        | bad => simp only [mb, e2] at h ⊢; exact h
    | exc x S1 => simp only [e] at h ⊢; exact h
    | bad => simp only [e] at h ⊢; exact h
theorem whileN_le {c : M Bool} {g : M Fl} {n m : Nat} (h : n ≤ m) {S : Sta} {r : Res Fl} (e : whileN c g n S = r) (hr : r ≠ .bad) : whileN c g m S = r := by
  induction h with
  | refl => exact e
  | step _ ih => exact whileN_mono ih hr
open Classical in
noncomputable def whileS (c : M Bool) (g : M Fl) : M Fl := fun S => if h : ∃ n, whileN c g n S ≠ .bad then whileN c g h.choose S else .bad
theorem whileS_of {c : M Bool} {g : M Fl} {n : Nat} {S : Sta} {r : Res Fl} (e : whileN c g n S = r) (hr : r ≠ .bad) : whileS c g S = r := by
  have hx : ∃ n, whileN c g n S ≠ .bad := ⟨n, by rw [e]; exact hr⟩
  unfold whileS
  rw [dif_pos hx]
  have h1 : whileN c g (max n hx.choose) S = r := whileN_le (Nat.le_max_left _ _) e hr
  have h2 : whileN c g (max n hx.choose) S = whileN c g hx.choose S := whileN_le (Nat.le_max_right _ _) rfl hx.choose_spec
  rw [← h2]; exact h1
theorem whileS_eq (c : M Bool) (g : M Fl) : whileS c g = mb c fun b => if b then mb g fun fl => match fl with
      | .nx => whileS c g
      | .cnt => whileS c g
      | .brk => mp .nx
      | .ret r => mp (.ret r)
    else mp .nx := by
  funext S
  by_cases hx : ∃ n, whileN c g n S ≠ .bad
  · obtain ⟨n, hn⟩ := hx
    have e := whileS_of (c := c) (g := g) (n := n) (S := S) rfl hn
    rw [e]
    cases n with
    | zero => exact absurd rfl hn
    | succ n =>
      unfold whileN mb at hn ⊢
      cases e1 : c S with
      | ok b S1 =>
        simp only [e1] at hn ⊢
        cases b with
        | false => rfl
        | true =>
          simp only [if_true, mb] at hn ⊢
          cases e2 : g S1 with
          | ok fl S2 =>
            simp only [e2] at hn ⊢
            cases fl with
            | nx => exact (whileS_of rfl hn).symm
            | cnt => exact (whileS_of rfl hn).symm
            | brk => rfl
            | ret r => rfl
          | exc x S2 => rfl
          | bad => rfl
      | exc x S1 => rfl
      | bad => rfl
  · have e : whileS c g S = .bad := by unfold whileS; rw [dif_neg hx]
    rw [e]
    have hn : ∀ n, whileN c g n S = .bad := fun n => Classical.byContradiction fun z => hx ⟨n, z⟩
    unfold mb
    have h1 := hn 1
    unfold whileN mb at h1
    cases e1 : c S with
    | ok b S1 =>
      simp only [e1] at h1 ⊢
      cases b with
      | false => exact absurd h1 (by intro z; cases z)
      | true =>
        simp only [if_true, mb] at h1 ⊢
        cases e2 : g S1 with
        | ok fl S2 =>
          simp only [e2] at h1 ⊢
          have step : ∀ n, (match fl with
              | .nx => whileN c g n
              | .cnt => whileN c g n
              | .brk => mp .nx
              | .ret r => mp (.ret r)) S2 = Res.bad := fun n => by
            have q := hn (n + 1)
            unfold whileN mb at q
            simp only [e1, if_true, mb, e2] at q
            exact q
          have go : (∀ n, whileN c g n S2 = .bad) → whileS c g S2 = .bad := fun z => by
            unfold whileS
            rw [dif_neg]
            rintro ⟨n, q⟩
            exact q (z n)
          cases fl with
          | nx => exact (go fun n => step n).symm
          | cnt => exact (go fun n => step n).symm
          | brk => exact absurd (step 0) (by intro z; cases z)
          | ret r => exact absurd (step 0) (by intro z; cases z)
        | exc x S2 => simp only [e2] at h1; cases h1
        | bad => rfl
    | exc x S1 => simp only [e1] at h1; cases h1
    | bad => rfl
theorem ds_while {t : Expr} {body : List Stmt} (hp : PassesOwn (model X.prog X.w) X.A X.env X.xe) (hc : DT X E t c) (hb : DSs X E body g) : DS X E (.While t body [] pos) (whileS c g) := by
  refine PS.mono' (ps_while hp hc hb) fun D σ H ⟨W, F, S, k, p⟩ => ?_
  have hx : ∃ n, whileN c g n S ≠ .bad := Classical.byContradiction fun z => by
    unfold whileS at p; rw [dif_neg z] at p; exact p
  obtain ⟨n, hn⟩ := hx
  have e := whileS_of (c := c) (g := g) (n := n) (S := S) rfl hn
  rw [e] at p
  refine ⟨fun m σ' H' => ∃ F' S', Ok X.K W F' S' σ' H' ∧ PostS X.K E W F' D (whileN c g m S'), ⟨n, F, S, k, p⟩, ?_⟩
  rintro m σ1 H1 ⟨F1, S1, k1, p1⟩
  cases m with
  | zero => exact p1.elim
  | succ m =>
    refine tT_bindS k1 p1 fun b S2 F2 H2 s2 k2 p2 => ?_
    cases b with
    | false => exact p2 σ1 F2 H2 (Same.refl _) k2
    | true =>
      rw [if_pos rfl]
      simp only [if_true] at p2
      refine ⟨fun σ' H' => ∃ F' S', Ok X.K W F' S' σ' H' ∧ PostS X.K E W F' D (whileN c g m S'), fun σ' H' q => ⟨m, Nat.lt_succ_self m, q⟩, W, F2, S2, k2, ?_⟩
      unfold mb at p2
      cases e2 : g S2 with
      | ok fl S3 =>
        simp only [e2] at p2
        cases fl with
        | nx => exact fun σ' F' H' s k' => ⟨F', S3, k', PostS.mono s p2⟩
        | cnt => exact fun σ' F' H' s k' => ⟨F', S3, k', PostS.mono s p2⟩
        | brk => exact p2
        | ret r => exact p2
      | exc x S3 => simp only [e2] at p2; exact p2
      | bad => simp only [e2] at p2; exact p2

/-! ### for -/
def YD (K : PySem.W.Frag) (W : Wd) (F : Hp) (ds : List D) (i : Nat) (H : Hp) (x : V) (H' : Hp) : Prop :=
  (H' = H ∧ ∃ d, ds[i]? = some d ∧ Rep K W.dp F d x) ∨ ∃ T xs es, x = .ref T ∧ H T = none ∧ H' = upd H T (.tup xs) ∧ ds[i]? = some (.tup es) ∧ Reps K W.dp F es xs
def Yields (K : PySem.W.Frag) (W : Wd) (F : Hp) (J : It) (ds : List D) : Prop :=
  ∃ G Y, Walk J ds.length G Y ∧ (∀ H, Same F H → G H) ∧ ∀ i H x H', i < ds.length → Same F H → Y i H x H' → YD K W F ds i H x H'
def PostI (K : PySem.W.Frag) (E : WX) (W : Wd) (F : Hp) (σ : L2.St) (r : Res (List D)) (R : It → Hp → Prop) : Prop := match r with
  | .ok ds S' => ∀ J F' H', Same F F' → Ok K W F' S' σ H' → Yields K W F' J ds → R J H'
  | .exc x S' => PostX K E W F x S' σ
  | .bad => False
def tI (K : PySem.W.Frag) (E : WX) (f : M (List D)) : TI := fun σ H R => ∃ W F S, Ok K W F S σ H ∧ PostI K E W F σ (f S) R
abbrev DI (X : Cx) (E : WX) (tg e : Expr) (f : M (List D)) : Prop := PI X tg e (tI X.K E f)
theorem PI.mono' {tg e : Expr} {t t' : TI} (h : PI X tg e t) (m : ∀ σ H R, t' σ H R → t σ H R) : PI X tg e t' := ⟨fun pins s σ H R I q => h.run pins s σ H R I (m σ H R q)⟩
def forL (tg : R → M Unit) (g : M Fl) : List D → M Fl
  | [] => mp .nx
  | d :: ds => mb (tg (.val d)) fun _ => mb g fun fl => match fl with
    | .nx => forL tg g ds
    | .cnt => forL tg g ds
    | .brk => mp .nx
    | .ret r => mp (.ret r)
def forS (it : M (List D)) (tg : R → M Unit) (g : M Fl) : M Fl := mb it fun ds => forL tg g ds
theorem drop_cons {α : Type} {l : List α} {i : Nat} {x : α} (h : l[i]? = some x) : l.drop i = x :: l.drop (i + 1) := by
  obtain ⟨hi, e⟩ := List.getElem?_eq_some_iff.mp h
  rw [List.drop_eq_getElem_cons hi, e]
/-- what a turn gives, in the world as it is -/
theorem YD.get {K : PySem.W.Frag} {W : Wd} {F F' H H' : Hp} {S : Sta} {σ : L2.St} {ds : List D} {i : Nat} {x : V} (k : Ok K W F' S σ H) (s : Same F F') (y : YD K W F ds i H x H') :
    ∃ d F2, ds[i]? = some d ∧ Same F' F2 ∧ Ok K W F2 S σ H' ∧ Rep K W.dp F2 d x := by
  rcases y with ⟨rfl, d, e, r⟩ | ⟨T, xs, es, rfl, hT, rfl, e, r⟩
  · exact ⟨d, F', e, Same.refl _, k, r.mono s⟩
  · obtain ⟨s2, k2⟩ := k.newF (o := .tup xs) hT
    exact ⟨_, _, e, s2, k2, .tup (.inl (.inl upd_same)) (r.mono (s.trans s2))⟩
theorem ds_for {tg iter : Expr} {is : List Nat} {body : List Stmt} {f : M (List D)} {t : R → M Unit} (hp : PassesOwn (model X.prog X.w) X.A X.env X.xe) (hc : X.calm = true) (hi : DI X E tg iter f) (hg : DG X E tg is t) (hb : DSs X E body g)
    (hs : ∀ x, foldedSetIterable iter X.env x = pure x := by intro _; rfl) : DS X E (.For tg iter body [] pos) (forS f t g) := by
  refine PS.mono' (ps_for hp hc hi hg hb hs) fun D σ H ⟨W, F, S, k, p⟩ => ?_
  refine ⟨W, F, S, k, ?_⟩
  unfold forS mb at p
  cases e : f S with
  | exc x S' => simp only [e] at p; exact p σ
  | bad => simp only [e] at p; exact p
  | ok ds S1 =>
    simp only [e] at p
    intro J F1 H1 s1 k1 ⟨G, Y, wk, hG, hY⟩
    refine for_it wk (fun i σ' H' => ∃ F' S', Same F1 F' ∧ Ok X.K W F' S' σ' H' ∧ PostS X.K E W F' D (forL t g (ds.drop i) S')) ⟨F1, S1, Same.refl _, k1, PostS.mono s1 p⟩ ?_ ?_ ?_
    · rintro i σ' H' _ ⟨F', S', s', k', _⟩
      exact hG H' (s'.trans k'.fh)
    · rintro i x σ' H' H2 hi ⟨F', S', s', k', p'⟩ y
      obtain ⟨d, F2, ed, s2, k2, r2⟩ := (hY i H' x H2 hi (s'.trans k'.fh) y).get k' s'
      rw [drop_cons ed] at p'
      refine tG_bindS k2 (r := .val d) r2 (PostS.mono s2 p') fun S3 σ3 F3 H3 s3 k3 p3 => ⟨W, F3, S3, k3, ?_⟩
      unfold mb at p3
      cases e3 : g S3 with
      | ok fl S4 =>
        simp only [e3] at p3
        cases fl with
        | nx => exact fun σ4 F4 H4 s4 k4 => ⟨F4, S4, ((s'.trans s2).trans s3).trans s4, k4, PostS.mono s4 p3⟩
        | cnt => exact fun σ4 F4 H4 s4 k4 => ⟨F4, S4, ((s'.trans s2).trans s3).trans s4, k4, PostS.mono s4 p3⟩
        | brk => exact p3
        | ret r => exact p3
      | exc x S4 => simp only [e3] at p3; exact p3
      | bad => simp only [e3] at p3; exact p3
    · rintro σ' H' ⟨F', S', s', k', p'⟩
      rw [List.drop_eq_nil_of_le (Nat.le_refl _)] at p'
      exact p' σ' F' H' (Same.refl _) k'
end
end DD

end
section
set_option Elab.async false
set_option Elab.async false
set_option linter.all false
set_option maxRecDepth 100000
set_option maxHeartbeats 2000000
set_option autoImplicit false
namespace DD
open PySem PySem.Spec PyProof.Rows L2

/-! ### what is held aside while something else runs -/
abbrev Wd.frame (W : Wd) (F : Hp) (a : Addr) (ho : HO) : Wd := ⟨W.dp, W.dq, L2.upd W.G a ho, F⟩
section
variable {K : PySem.W.Frag} {W : Wd} {F F' H H' : Hp} {S S' : Sta} {σ σ' : L2.St} {a : Addr} {ho : HO} {o : OD}
structure Aside (K : PySem.W.Frag) (W : Wd) (F H : Hp) (S : Sta) (σ : L2.St) (a : Addr) (ho : HO) (o : OD) : Prop where
  k : Ok K W F S σ H
  f : F a = none
  g : W.G a = none
  d : S.st ≠ none → a ≠ W.dp ∧ a ≠ W.dq
  h : H a = some ho
  r : RepO K W.dp F o ho
  n : NotIn S σ (.ref a)
theorem Ok.aside (k : Ok K W F S σ H) {v : V} (h : OwnAt K W F S.st H o v) (n : NotIn S σ v) : ∃ a ho, v = .ref a ∧ Aside K W F H S σ a ho o := by
  obtain ⟨a, ho, rfl, f, g, d, q, r⟩ := h
  exact ⟨a, ho, rfl, k, f, g, d, q, r, n⟩
theorem Aside.own (A : Aside K W F H S σ a ho o) : OwnAt K W F S.st H o (.ref a) := ⟨a, ho, rfl, A.f, A.g, A.d, A.h, A.r⟩
theorem Aside.frame (A : Aside K W F H S σ a ho o) : Ok K (W.frame F a ho) F S σ H where
  fh := A.k.fh
  gh := fun b u e => by
    have e' : L2.upd W.G a ho b = some u := e
    by_cases hb : b = a
    · subst hb; rw [upd_same] at e'; cases e'; exact A.h
    · rw [upd_ne hb] at e'; exact A.k.gh b u e'
  ff := Same.refl _
  gf := fun _ _ _ => rfl
  dl := A.k.dl
  dg := fun h => by
    obtain ⟨d1, d2⟩ := A.d h
    obtain ⟨g1, g2⟩ := A.k.dg h
    exact ⟨(upd_ne d1.symm).trans g1, (upd_ne d2.symm).trans g2⟩
  sl := fun i s e => by
    have q := A.k.sl i s e
    cases s with
    | un => trivial
    | val d => exact q
    | own o' =>
      obtain ⟨v, e1, a', ho', rfl, f', g', d', q', r'⟩ := q
      refine ⟨_, e1, a', ho', rfl, f', (upd_ne ?_).trans g', d', q', r'⟩
      rintro rfl
      exact A.n i o' e e1
  ap := A.k.ap
  len := A.k.len
theorem Aside.back (A : Aside K W F H S σ a ho o) (k' : Ok K (W.frame F a ho) F' S' σ' H') : Aside K W F' H' S' σ' a ho o := by
  have ga : (W.frame F a ho).G a = some ho := upd_same
  have hd : S'.st ≠ none → a ≠ W.dp ∧ a ≠ W.dq := fun h => by
    obtain ⟨g1, g2⟩ := k'.dg h
    constructor
    · intro z; rw [← z] at g1; rw [ga] at g1; cases g1
    · intro z; rw [← z] at g2; rw [ga] at g2; cases g2
  have gn : ∀ b, (W.frame F a ho).G b = none → W.G b = none ∧ b ≠ a := fun b e => by
    have hb : b ≠ a := fun z => by rw [z, ga] at e; cases e
    exact ⟨(upd_ne hb).symm.trans e, hb⟩
  refine ⟨⟨k'.fh, fun b u e => ?_, A.k.ff.trans k'.ff, fun b u e => ?_, k'.dl, fun h => ?_, fun i s e => ?_, k'.ap, k'.len⟩, ?_, A.g, hd, k'.gh a _ ga, A.r.mono k'.ff, fun i o' e z => ?_⟩
  · exact k'.gh b u ((upd_ne (ne_of_none e A.g)).trans e)
  · rw [k'.gf b u ((upd_ne (ne_of_none e A.g)).trans e)]; exact A.k.gf b u e
  · obtain ⟨g1, g2⟩ := k'.dg h
    exact ⟨(gn _ g1).1, (gn _ g2).1⟩
  · have q := k'.sl i s e
    cases s with
    | un => trivial
    | val d => exact q
    | own o' =>
      obtain ⟨v, e1, a', ho', rfl, f', g', d', q', r'⟩ := q
      exact ⟨_, e1, a', ho', rfl, f', (gn _ g').1, d', q', r'⟩
  · rw [k'.gf a _ ga]; exact A.f
  · obtain ⟨v, e1, a', ho', e2, f', g', d', q', r'⟩ := k'.sl i _ e
    rw [z] at e1
    cases e1
    cases e2
    exact (gn _ g').2 rfl
theorem Aside.rr (A : Aside K W F H S σ a ho o) (k' : Ok K (W.frame F a ho) F' S' σ' H') {r : R} {v : V} (h : RR K (W.frame F a ho) F' H' S' σ' r v) : RR K W F' H' S' σ' r v ∧ ((∃ o', r = .own o') → v ≠ .ref a) := by
  cases r with
  | val d => exact ⟨h, fun ⟨_, z⟩ => by cases z⟩
  | own o' =>
    obtain ⟨⟨a', ho', rfl, f', g', d', q', r'⟩, n⟩ := h
    have hb : a' ≠ a := fun z => by
      have ga : (W.frame F a ho).G a = some ho := upd_same
      rw [z, ga] at g'; cases g'
    exact ⟨⟨⟨a', ho', rfl, f', (upd_ne hb).symm.trans g', d', q', r'⟩, n⟩, fun _ z => hb (by injection z)⟩
theorem Aside.upd (A : Aside K W F H S σ a ho o) {ho' : HO} {o' : OD} (r : RepO K W.dp F o' ho') : Aside K W F (L2.upd H a ho') S σ a ho' o' := by
  refine ⟨⟨fun b u e' => ?_, fun b u e' => ?_, A.k.ff, A.k.gf, ?_, A.k.dg, fun j s e' => ?_, A.k.ap, A.k.len⟩, A.f, A.g, A.d, upd_same, r, A.n⟩
  · rw [upd_ne (ne_of_none e' A.f)]; exact A.k.fh b u e'
  · rw [upd_ne (ne_of_none e' A.g)]; exact A.k.gh b u e'
  · have q := A.k.dl
    cases es : S.st with
    | none => trivial
    | some p =>
      obtain ⟨cs, m⟩ := p
      rw [es] at q
      obtain ⟨h1, h2, h3, h4, h5⟩ := q
      obtain ⟨d1, d2⟩ := A.d (by rw [es]; simp)
      exact ⟨h1, h2, h3, by rw [upd_ne d1.symm]; exact h4, by rw [upd_ne d2.symm]; exact h5⟩
  · have y := A.k.sl j s e'
    cases s with
    | un => trivial
    | val d => exact y
    | own o2 =>
      obtain ⟨v, e1, a', ho2, rfl, f', g', d', q', r'⟩ := y
      refine ⟨_, e1, a', ho2, rfl, f', g', d', ?_, r'⟩
      rw [upd_ne]
      · exact q'
      · rintro rfl
        exact A.n j o2 e' e1
theorem Aside.excAt {x : Exc} {d : Option Addr} (h : ExcAt K (W.frame F a ho) F' H' x d) : ExcAt K W F' H' x d := h
end

/-! ### a, b = e1, e2 where both may be owned -/
section
variable {X : Cx} {E : WX}
def parO (i j : Nat) (f g : M R) : M Fl := mb f fun r1 => mb g fun r2 => mb (put i r1) fun _ => mb (put j r2) fun _ => mp .nx
theorem ds_parO {i j : Nat} {x y : Str} {a b : Expr} {f g : M R} {px py pt pos : Pos} {kt k2 pt2} (hc : X.calm = true) (hN : X.N.Nodup) (hi : X.N[i]? = some x) (hj : X.N[j]? = some y) (hij : i ≠ j)
    (hx : X.env.scope.names.lookup x = some .local) (hy : X.env.scope.names.lookup y = some .local) (ha : DE X E a f) (hb : DE X E b g)
    (hw : swappedStores [.Tuple [.Name x px, .Name y py] kt pt] (.Tuple [a, b] k2 pt2) X.env = pure (some [x, y]) := by rfl)
    (h1 : starEach [a, b] X.env = (false, eval a X.env) :: starEach [b] X.env := by rfl) (h2 : starEach [b] X.env = (false, eval b X.env) :: starEach [] X.env := by rfl)
    (hs : swapsWithSole [.Tuple [.Name x px, .Name y py] kt pt] (.Tuple [a, b] k2 pt2) pos.line X.env = pure false := by rfl) :
    DS X E (.Assign [.Tuple [.Name x px, .Name y py] kt pt] (.Tuple [a, b] k2 pt2) pos) (parO i j f g) := by
  refine PS.mono' (ps_par hc hN hi hj hij hx hy (pa_cons ha (pa_cons hb pa_nil h2) h1) hw hs) fun D σ H ⟨W, F, S, k, p⟩ => ?_
  refine tD_bindS k p fun r1 S1 v1 F1 H1 s1 k1 rr1 p1 => ?_
  have fin : ∀ {F2 H2 : Hp} {S2 : Sta} {r2 : R} {v2 : V}, Ok X.K W F2 S2 σ H2 → RR X.K W F2 H2 S2 σ r1 v1 → RR X.K W F2 H2 S2 σ r2 v2 → ((∃ o, r1 = .own o) → (∃ o', r2 = .own o') → v2 ≠ v1) →
      PostS X.K E W F2 D (mb (put i r1) (fun _ => mb (put j r2) fun _ => mp .nx) S2) → tNil σ H2 fun xs H3 => ∃ v w, v1 :: v2 :: xs = [v, w] ∧ D.nx ((σ.set i (some v)).set j (some w)) H3 := by
    intro F2 H2 S2 r2 v2 k2 rr rr2 hne p2
    unfold mb put at p2
    by_cases hi : i < S2.sl.length
    · rw [if_pos hi] at p2
      refine ⟨v1, v2, rfl, put_ok (k2.store hi rr) ?_ p2⟩
      cases r2 with
      | val d => exact rr2
      | own o' =>
        refine ⟨rr2.1, fun j' o'' e => ?_⟩
        rcases set_get e with ⟨rfl, e3, _⟩ | ⟨n, e3⟩
        · rw [List.getElem?_set_self (by rw [← k2.len]; exact hi)]
          intro z
          cases r1 with
          | val d => cases e3
          | own o => exact hne ⟨_, rfl⟩ ⟨_, rfl⟩ (Option.some.inj (Option.some.inj z)).symm
        · rw [List.getElem?_set_ne (Ne.symm n)]
          exact rr2.2 j' o'' e3
    · rw [if_neg hi] at p2; exact p2.elim
  cases r1 with
  | val d =>
    refine tD_bindS k1 p1 fun r2 S2 v2 F2 H2 s2 k2 rr2 p2 => ?_
    exact fin k2 (Rep.mono s2 rr1) rr2 (fun ⟨_, z⟩ => by cases z) p2
  | own o =>
    obtain ⟨a', ho, rfl, A⟩ := k1.aside rr1.1 rr1.2
    refine ⟨W.frame F1 a' ho, F1, S1, A.frame, ?_⟩
    unfold mb at p1
    cases e : g S1 with
    | ok r2 S2 =>
      rw [e] at p1
      intro v2 F2 H2 s2 k2 rr2
      have A2 := A.back k2
      obtain ⟨q1, q2⟩ := A.rr k2 rr2
      exact fin A2.k ⟨A2.own, A2.n⟩ q1 (fun _ z => q2 z) (PostS.mono s2 p1)
    | exc x S2 =>
      rw [e] at p1
      exact fun d F' H' s k' ea => p1 σ d F' H' s (A.back k').k ea
    | bad => rw [e] at p1; exact p1

/-! ### comprehensions -/
def wipeL (sl : List Slot) : List Nat → List Slot
  | [] => sl
  | v :: vs => (wipeL sl vs).set v .un
def backL (sl0 sl : List Slot) : List Nat → List Slot
  | [] => sl
  | v :: vs => (backL sl0 sl vs).set v (match sl0[v]? with
    | some (.val d) => .val d
    | _ => .un)
def mbx {α β : Type} (f : M α) (k : α → M β) : M β := fun S => match f S with
  | .ok a S' => k a S'
  | _ => .bad
def compL (vs : List Nat) (tg : R → M Unit) (tt : M Bool) (te : M R) : List D → List D → M (List D)
  | [], acc => mp acc
  | d :: ds, acc => mbx (tg (.val d)) fun _ => mbx tt fun b => if b then mbx te fun r => fun S => if acc.length < sizeLine then compL vs tg tt te ds (acc ++ [r.d]) { S with sl := wipeL S.sl vs } else .bad
      else fun S => compL vs tg tt te ds acc { S with sl := wipeL S.sl vs }
def compM (vs : List Nat) (it : M (List D)) (tg : R → M Unit) (tt : M Bool) (te : M R) : M R := mb it fun ds => fun S =>
  match compL vs tg tt te ds [] { S with sl := wipeL S.sl vs } with
  | .ok acc S' => .ok (.own (.lst acc)) { S' with sl := backL S.sl S'.sl vs }
  | _ => .bad
theorem wipeL_len (sl : List Slot) : ∀ vs : List Nat, (wipeL sl vs).length = sl.length
  | [] => rfl
  | v :: vs => by unfold wipeL; rw [List.length_set, wipeL_len sl vs]
theorem wipeL_get {sl : List Slot} {i : Nat} {s : Slot} : ∀ {vs : List Nat}, (wipeL sl vs)[i]? = some s → s = .un ∨ (sl[i]? = some s ∧ i ∉ vs)
  | [], h => .inr ⟨h, by simp⟩
  | v :: vs, h => by
    unfold wipeL at h
    rcases set_get h with ⟨_, e, _⟩ | ⟨n, e⟩
    · exact .inl e
    · rcases wipeL_get e with q | ⟨q, q2⟩
      · exact .inl q
      · exact .inr ⟨q, by simp only [List.mem_cons, not_or]; exact ⟨n, q2⟩⟩
theorem backL_len (sl0 sl : List Slot) : ∀ vs : List Nat, (backL sl0 sl vs).length = sl.length
  | [] => rfl
  | v :: vs => by unfold backL; rw [List.length_set, backL_len sl0 sl vs]
theorem backL_get {sl0 sl : List Slot} {i : Nat} {s : Slot} : ∀ {vs : List Nat}, (backL sl0 sl vs)[i]? = some s → (∃ d, s = .val d ∧ sl0[i]? = some (.val d)) ∨ s = .un ∨ (sl[i]? = some s ∧ i ∉ vs)
  | [], h => .inr (.inr ⟨h, by simp⟩)
  | v :: vs, h => by
    unfold backL at h
    rcases set_get h with ⟨e1, e, _⟩ | ⟨n, e⟩
    · subst e1
      split at e
      · rename_i d hd
        exact .inl ⟨d, e, hd⟩
      · exact .inr (.inl e)
    · rcases backL_get e with q | q | ⟨q, q2⟩
      · exact .inl q
      · exact .inr (.inl q)
      · exact .inr (.inr ⟨q, by simp only [List.mem_cons, not_or]; exact ⟨n, q2⟩⟩)
section
variable {K : PySem.W.Frag} {W : Wd} {F F' H H' : Hp} {S S' : Sta} {σ σ' : L2.St}
/-- other values in forgotten slots -/
theorem Ok.reslot {vs : List Nat} (k : Ok K W F S σ H) (hl : σ'.length = σ.length) (h : ∀ j : Nat, j ∉ vs → σ'[j]? = σ[j]?) : Ok K W F { S with sl := wipeL S.sl vs } σ' H where
  fh := k.fh
  gh := k.gh
  ff := k.ff
  gf := k.gf
  dl := k.dl
  dg := k.dg
  sl := fun i s e => by
    rcases wipeL_get e with rfl | ⟨q, hn⟩
    · trivial
    · show SlotOk K W F S.st H σ'[i]? s
      rw [h i hn]; exact k.sl i s q
  ap := fun i j o o' v n e1 e2 e3 => by
    rcases wipeL_get e1 with q | ⟨q1, h1⟩
    · cases q
    · rcases wipeL_get e2 with q | ⟨q2, h2⟩
      · cases q
      · rw [h i h1] at e3
        rw [h j h2]
        exact k.ap i j o o' v n q1 q2 e3
  len := (wipeL_len _ _).trans (k.len.trans hl.symm)
theorem wipe_get {σ : L2.St} {i : Nat} : ∀ {vs : List Nat}, i ∉ vs → (wipe σ vs)[i]? = σ[i]?
  | [], _ => rfl
  | v :: vs, h => by
    unfold wipe
    simp only [List.mem_cons, not_or] at h
    rw [List.getElem?_set_ne (Ne.symm h.1)]
    exact wipe_get h.2
theorem wipe_at {σ : L2.St} {i : Nat} : ∀ {vs : List Nat}, i ∈ vs → i < σ.length → (wipe σ vs)[i]? = some none
  | v :: vs, h, hl => by
    unfold wipe
    by_cases e : v = i
    · subst e
      rw [List.getElem?_set_self (by rw [wipe_length]; exact hl)]
    · rw [List.getElem?_set_ne e]
      rcases List.mem_cons.mp h with z | z
      · exact absurd z.symm e
      · exact wipe_at z hl
theorem wipe_eq {σ σ' : L2.St} {vs : List Nat} (hl : σ'.length = σ.length) (h : ∀ j : Nat, j ∉ vs → σ'[j]? = σ[j]?) : wipe σ' vs = wipe σ vs := by
  apply List.ext_getElem?
  intro i
  by_cases hi : i ∈ vs
  · by_cases hlt : i < σ.length
    · rw [wipe_at hi hlt, wipe_at hi (by rw [hl]; exact hlt)]
    · rw [List.getElem?_eq_none (by rw [wipe_length]; omega), List.getElem?_eq_none (by rw [wipe_length]; omega)]
  · rw [wipe_get hi, wipe_get hi]; exact h i hi
theorem wipe_idem (σ : L2.St) (vs : List Nat) : wipe (wipe σ vs) vs = wipe σ vs := wipe_eq (wipe_length _ _) fun _ hj => wipe_get hj
theorem wipeL_mem {sl : List Slot} {i : Nat} : ∀ {vs : List Nat}, i ∈ vs → i < sl.length → (wipeL sl vs)[i]? = some .un
  | v :: vs, h, hl => by
    unfold wipeL
    by_cases e : v = i
    · subst e
      rw [List.getElem?_set_self (by rw [wipeL_len]; exact hl)]
    · rw [List.getElem?_set_ne e]
      rcases List.mem_cons.mp h with z | z
      · exact absurd z.symm e
      · exact wipeL_mem z hl
theorem wipeL_out {sl : List Slot} {i : Nat} : ∀ {vs : List Nat}, i ∉ vs → (wipeL sl vs)[i]? = sl[i]?
  | [], _ => rfl
  | v :: vs, h => by
    unfold wipeL
    simp only [List.mem_cons, not_or] at h
    rw [List.getElem?_set_ne (Ne.symm h.1)]
    exact wipeL_out h.2
theorem wipeL_idem (sl : List Slot) (vs : List Nat) : wipeL (wipeL sl vs) vs = wipeL sl vs := by
  apply List.ext_getElem?
  intro i
  by_cases hi : i ∈ vs
  · by_cases hl : i < sl.length
    · rw [wipeL_mem hi (by rw [wipeL_len]; exact hl), wipeL_mem hi hl]
    · rw [List.getElem?_eq_none (by rw [wipeL_len, wipeL_len]; omega), List.getElem?_eq_none (by rw [wipeL_len]; omega)]
  · rw [wipeL_out hi]
theorem Ok.back {vs : List Nat} (k : Ok K W F S σ H) (k0 : ∀ (i : Nat) d, i ∈ vs → S'.sl[i]? = some (.val d) → ∃ v, σ[i]? = some (some v) ∧ Rep K W.dp F d v) (hl : S'.sl.length = S.sl.length) :
    Ok K W F { S with sl := backL S'.sl S.sl vs } σ H where
  fh := k.fh
  gh := k.gh
  ff := k.ff
  gf := k.gf
  dl := k.dl
  dg := k.dg
  sl := fun i s e => by
    by_cases hi : i ∈ vs
    · rcases backL_get e with ⟨d, rfl, q⟩ | rfl | ⟨_, n⟩
      · exact k0 i d hi q
      · trivial
      · exact absurd hi n
    · have gen : ∀ vs : List Nat, i ∉ vs → (backL S'.sl S.sl vs)[i]? = S.sl[i]? := by
        intro vs
        induction vs with
        | nil => intro _; rfl
        | cons v vs ih =>
          intro h
          simp only [List.mem_cons, not_or] at h
          unfold backL
          rw [List.getElem?_set_ne (Ne.symm h.1)]
          exact ih h.2
      have e' : (backL S'.sl S.sl vs)[i]? = some s := e
      rw [gen vs hi] at e'
      exact k.sl i s e'
  ap := fun i j o o' v n e1 e2 e3 => by
    rcases backL_get e1 with ⟨d, z, _⟩ | z | ⟨q1, h1⟩
    · cases z
    · cases z
    · rcases backL_get e2 with ⟨d, z, _⟩ | z | ⟨q2, h2⟩
      · cases z
      · cases z
      · exact k.ap i j o o' v n q1 q2 e3
  len := (backL_len _ _ _).trans k.len
end
theorem compL_read {K : PySem.W.Frag} {W : Wd} {F H : Hp} {S : Sta} {σ : L2.St} {vs is : List Nat} {f : M (List D)} {tg : R → M Unit} {tt : M Bool} {te : M R} {Q : VK} (his : ∀ i ∈ is, i ∈ vs)
    (k : Ok K W F S σ H) (p : PostE K E W F σ (compM vs f tg tt te S) Q) : tLc (tI K E f) (tG K noE is tg) (tT K noE tt) (tD K noE te) vs σ H Q := by
  refine ⟨W, F, S, k, ?_⟩
  unfold compM mb at p
  cases e : f S with
  | exc x S1 => rw [e] at p; exact p
  | bad => rw [e] at p; exact p
  | ok ds S1 =>
    simp only [e] at p
    intro J F1 H1 s1 k1 ⟨G, Y, wk, hG, hY⟩ Dn hD
    cases ec : compL vs tg tt te ds [] { S1 with sl := wipeL S1.sl vs } with
    | exc x S2 => rw [ec] at p; exact p.elim
    | bad => rw [ec] at p; exact p.elim
    | ok accE SE =>
      rw [ec] at p
      have keep0 : ∀ {F'' : Hp}, Same F1 F'' → ∀ (i : Nat) d, i ∈ vs → S1.sl[i]? = some (.val d) → ∃ v, σ[i]? = some (some v) ∧ Rep K W.dp F'' d v := fun sF i d _ q => by
        obtain ⟨v, e1, r⟩ := k1.sl i _ q
        exact ⟨v, e1, r.mono sF⟩
      refine lc_it wk (fun i H' => ∃ F' S' acc ho, Same F1 F' ∧ wipeL S'.sl vs = S'.sl ∧ Aside K W F' H' S' σ Dn ho (.lst acc) ∧ compL vs tg tt te (ds.drop i) acc S' = .ok accE SE) ?_ ?_ ?_ ?_
      · -- start
        have k2 : Ok K W F1 { S1 with sl := wipeL S1.sl vs } σ H1 := k1.reslot rfl fun _ _ => rfl
        have k3 := k2.newO (o := .lst []) hD
        obtain ⟨own, nin⟩ := k2.ownNew (o := .lst []) (ho := .lst []) hD ⟨[], rfl, .nil⟩
        obtain ⟨a, ho, ea, A⟩ := k3.aside own nin
        cases ea
        exact ⟨F1, _, [], ho, Same.refl _, wipeL_idem _ _, A, ec⟩
      · rintro i H' _ ⟨F', S', acc, ho, s', _, A, _⟩
        exact hG H' (s'.trans A.k.fh)
      · rintro i x H' H2 hi ⟨F', S', acc, ho, s', hw', A, ec'⟩ y
        have kf := A.frame
        have y' := hY i H' x H2 hi (s'.trans A.k.fh) y
        obtain ⟨d, F2, ed, s2, k2, r2⟩ := (show YD K (W.frame F' Dn ho) F1 ds i H' x H2 from y').get kf s'
        rw [drop_cons ed] at ec'
        have k2' : Ok K (W.frame F' Dn ho) F2 S' (wipe σ vs) H2 := by
          have q : Ok K (W.frame F' Dn ho) F2 { S' with sl := wipeL S'.sl vs } (wipe σ vs) H2 := k2.reslot (wipe_length _ _) fun j hj => wipe_get hj
          rw [hw'] at q
          exact q
        unfold compL mbx at ec'
        cases e1 : tg (.val d) S' with
        | exc x S3 => simp only [e1] at ec'; cases ec'
        | bad => simp only [e1] at ec'; cases ec'
        | ok u S3 =>
          simp only [e1] at ec'
          refine ⟨W.frame F' Dn ho, F2, S', .val d, k2', r2, ?_⟩
          rw [e1]
          intro σ3 F3 H3 t3 s3 k3
          have hlen : σ3.length = σ.length := t3.1.trans (wipe_length _ _)
          have hout : ∀ j : Nat, j ∉ vs → σ3[j]? = σ[j]? := fun j hj => (t3.2 j fun z => hj (his j z)).trans (wipe_get hj)
          refine ⟨wipe_eq hlen hout, W.frame F' Dn ho, F3, S3, k3, ?_⟩
          -- to the next turn
          have next : ∀ {F6 H6 : Hp} {S6 : Sta} {ho' : HO} {acc' : List D}, Same F3 F6 → Aside K W F6 H6 S6 σ3 Dn ho' (.lst acc') → compL vs tg tt te (ds.drop (i + 1)) acc' { S6 with sl := wipeL S6.sl vs } = .ok accE SE →
              ∃ F' S' acc ho, Same F1 F' ∧ wipeL S'.sl vs = S'.sl ∧ Aside K W F' H6 S' σ Dn ho (.lst acc) ∧ compL vs tg tt te (ds.drop (i + 1)) acc S' = .ok accE SE := by
            intro F6 H6 S6 ho' acc' s6 A6 e6
            have k7 : Ok K W F6 { S6 with sl := wipeL S6.sl vs } σ H6 := A6.k.reslot hlen.symm fun j hj => (hout j hj).symm
            refine ⟨F6, _, acc', ho', ((s'.trans s2).trans s3).trans s6, wipeL_idem _ _, ⟨k7, A6.f, A6.g, A6.d, A6.h, A6.r, fun j o' q z => ?_⟩, e6⟩
            rcases wipeL_get q with w | ⟨w, hn⟩
            · cases w
            · rw [← hout j hn] at z
              exact A6.n j o' w z
          cases e4 : tt S3 with
          | exc x S4 => simp only [e4] at ec'; cases ec'
          | bad => simp only [e4] at ec'; cases ec'
          | ok b S4 =>
            simp only [e4] at ec'
            intro F4 H4 s4 k4
            cases b with
            | false =>
              rw [if_neg Bool.false_ne_true]
              simp only [Bool.false_eq_true, if_false] at ec'
              exact next s4 (A.back k4) ec'
            | true =>
              rw [if_pos rfl]
              simp only [if_true] at ec'
              cases e5 : te S4 with
              | exc x S5 => simp only [e5] at ec'; cases ec'
              | bad => simp only [e5] at ec'; cases ec'
              | ok r S5 =>
                simp only [e5] at ec'
                refine ⟨W.frame F' Dn ho, F4, S4, k4, ?_⟩
                rw [e5]
                intro v F5 H5 s5 k5 rr5
                obtain ⟨F6, s6, k6, r6⟩ := rr5.freeze k5
                have A6 := A.back k6
                obtain ⟨ws, rfl, rws⟩ := A6.r
                by_cases hz : acc.length < sizeLine
                · rw [if_pos hz] at ec'
                  exact ⟨ws, A6.h, by rw [← rws.length]; exact hz, next ((s4.trans s5).trans s6) (A6.upd ⟨ws ++ [v], rfl, rws.app (.cons r6 .nil)⟩) ec'⟩
                · rw [if_neg hz] at ec'; cases ec'
      · rintro H' ⟨F', S', acc, ho, s', hw', A, ec'⟩
        rw [List.drop_eq_nil_of_le (Nat.le_refl _)] at ec'
        cases ec'
        have kb := A.k.back (S' := S1) (vs := vs) (keep0 s') (k1.len.trans A.k.len.symm)
        refine p (.ref Dn) F' H' ?_ kb ?_
        · exact s1.trans s'
        · refine ⟨A.own, fun j o' e1 => ?_⟩
          rcases backL_get e1 with ⟨_, z, _⟩ | z | ⟨z, _⟩
          · cases z
          · cases z
          · exact A.n j o' z
end
end DD

end
section
set_option Elab.async false
set_option Elab.async false
set_option linter.all false
set_option maxRecDepth 100000
set_option maxHeartbeats 2000000
set_option autoImplicit false
namespace DD
open PySem PySem.Spec PyProof.Rows L2

section
variable {X : Cx} {E : WX}
/-- the tests of a comprehension -/
abbrev DTs (X : Cx) (E : WX) (ifs : List Expr) (f : M Bool) : Prop := PTs X ifs (tT X.K E f)
theorem dts_nil : DTs X E [] (mp true) := ⟨fun pins s σ H Q I ⟨W, F, S, k, p⟩ => pts_nil.run pins s σ H Q I (p F H (Same.refl _) k)⟩
theorem dts_one {c : Expr} {f : M Bool} (h : DT X E c f) : DTs X E [c] f := pts_one h

theorem de_comp {elt tg iter : Expr} {ifs : List Expr} {scope : Scope} {own : List (Str × Nat)} {pos : Pos} {f : M (List D)} {t : R → M Unit} {tt : M Bool} {te : M R} {is : List Nat} (hc : X.calm = true) (hN : X.N.Nodup) (hi : DI X E tg iter f) (ok : BlkOk X.N X.env.scope scope own)
    (hg : ∀ (s : Shared) (H : Hp) (C : Addr) (cl : List (Str × Addr)) (fp : List Addr), DG (X.blk s H scope (compEnvC scope cl C X.env) fp) noE tg is t)
    (ht : ∀ (s : Shared) (H : Hp) (C : Addr) (cl : List (Str × Addr)) (fp : List Addr), DTs (X.blk s H scope (compEnvC scope cl C X.env) fp) noE ifs tt)
    (he : ∀ (s : Shared) (H : Hp) (C : Addr) (cl : List (Str × Addr)) (fp : List Addr), DE (X.blk s H scope (compEnvC scope cl C X.env) fp) noE elt te) (his : ∀ i ∈ is, i ∈ own.map (·.2) := by decide) (hs : ∀ x, foldedSetIterable iter X.env x = pure x := by intro _; rfl) :
    DE X E (.ListComp elt [⟨tg, iter, ifs, 0⟩] scope pos) (compM (own.map (·.2)) f t tt te) :=
  PE.mono' (pe_lc hc hN hi ok hg ht he hs) fun σ H Q ⟨W, F, S, k, p⟩ => compL_read his k p
theorem ds_setComp {i : Nat} {y : Str} {py : Pos} {elt tg iter : Expr} {ifs : List Expr} {scope : Scope} {own : List (Str × Nat)} {pos spos : Pos} {f : M (List D)} {t : R → M Unit} {tt : M Bool} {te : M R} {is : List Nat} (hc : X.calm = true) (hN : X.N.Nodup) (hy : X.N[i]? = some y) (hyl : X.env.scope.names.lookup y = some .local)
    (hsw : swapsWith (.ListComp elt [⟨tg, iter, ifs, 0⟩] scope pos) (some (.Name y py)) spos.line X.env = pure true) (hi : DI X E tg iter f) (ok : BlkOk X.N X.env.scope scope own)
    (hg : ∀ (s : Shared) (H : Hp) (C : Addr) (cl : List (Str × Addr)) (fp : List Addr), DG (X.blk s H scope (compEnvC scope cl C X.env) fp) noE tg is t)
    (ht : ∀ (s : Shared) (H : Hp) (C : Addr) (cl : List (Str × Addr)) (fp : List Addr), DTs (X.blk s H scope (compEnvC scope cl C X.env) fp) noE ifs tt)
    (he : ∀ (s : Shared) (H : Hp) (C : Addr) (cl : List (Str × Addr)) (fp : List Addr), DE (X.blk s H scope (compEnvC scope cl C X.env) fp) noE elt te) (his : ∀ i ∈ is, i ∈ own.map (·.2) := by decide) (hs : ∀ x, foldedSetIterable iter X.env x = pure x := by intro _; rfl) :
    DS X E (.Assign [.Name y py] (.ListComp elt [⟨tg, iter, ifs, 0⟩] scope pos) spos) (setS i (compM (own.map (·.2)) f t tt te)) := by
  refine PS.mono' (ps_setLc (wi := tI X.K E f) (g := tG X.K noE is t) (tt := tT X.K noE tt) (te := tD X.K noE te) hc hN hy hyl hsw hi ok hg ht he hs) fun D σ H ⟨W, F, S, k, p⟩ => ?_
  have q : tD X.K E (compM (own.map (·.2)) f t tt te) σ H (fun x H1 => gName i x σ H1 D.nx) := tD_bindS k p fun r S' v F' H' s k' rr p' => put_ok k' rr p'
  obtain ⟨W', F', S', k', p'⟩ := q
  exact compL_read his k' p'

/-! ### defs -/
inductive FRes where
  | ok (r : R) (st : DSt) | exc (x : Exc) (st : DSt) | bad
abbrev Fn := List D → DSt → FRes
def initS (N : Nat) (ds : List D) (st : DSt) : Sta := ⟨ds.map Slot.val ++ List.replicate (N - ds.length) .un, st⟩
def runB (n N : Nat) (g : M Fl) : Fn := fun ds st => if ds.length = n then (match g (initS N ds st) with
  | .ok .nx S => .ok (.val .non) S.st
  | .ok (.ret r) S => .ok r S.st
  | _ => .bad) else .bad
def hide (st : DSt) (dp dq : Addr) (H : Hp) : Hp := fun b => if st ≠ none ∧ (b = dp ∨ b = dq) then none else H b
def RF (K : PySem.W.Frag) (dp : Addr) (F' H' H : Hp) : R → V → Prop
  | .val d, v => Rep K dp F' d v
  | .own o, v => ∃ a ho, v = .ref a ∧ H a = none ∧ F' a = none ∧ H' a = some ho ∧ RepO K dp F' o ho
def ExcF (K : PySem.W.Frag) (dp : Addr) (F H : Hp) (x : Exc) (d : Option Addr) : Prop :=
  (x.ns = [] ∧ x.ds = [] ∧ d = none) ∨ ∃ dd fs, d = some dd ∧ H dd = some (.xd fs) ∧ fs.map (·.1) = x.ns ∧ Reps K dp F x.ds (fs.map (·.2))
structure After (st st' : DSt) (dp dq : Addr) (F H F' H' : Hp) : Prop where
  ff : Same F F'
  fh : Same F' H'
  hh : Same (hide st dp dq H) H'
  hn : ∀ b, hide st dp dq H b ≠ none → F' b = F b
  dl : DealP dp dq F' H' st'
def spD (K : PySem.W.Frag) (n : Nat) (fn : Fn) : Sp := fun vs H Q E => ∃ dp dq F ds st, vs.length = n ∧ Same F H ∧ DealP dp dq F H st ∧ Reps K dp F ds vs ∧ match fn ds st with
  | .ok r st' => ∀ v F' H', After st st' dp dq F H F' H' → RF K dp F' H' H r v → Q v H'
  | .exc x st' => ∀ d F' H', After st st' dp dq F H F' H' → ExcF K dp F' H' x d → E (.ref x.cls) d H'
  | .bad => False
theorem hide_some {st : DSt} {dp dq b : Addr} {H : Hp} {o : HO} (h : hide st dp dq H b = some o) : H b = some o ∧ (st ≠ none → b ≠ dp ∧ b ≠ dq) := by
  unfold hide at h
  split at h
  · cases h
  · rename_i n
    exact ⟨h, fun hs => ⟨fun z => n ⟨hs, .inl z⟩, fun z => n ⟨hs, .inr z⟩⟩⟩
theorem hide_of {st : DSt} {dp dq b : Addr} {H : Hp} {o : HO} (h : H b = some o) (n : st ≠ none → b ≠ dp ∧ b ≠ dq) : hide st dp dq H b = some o := by
  unfold hide
  rw [if_neg]
  · exact h
  · rintro ⟨hs, z⟩
    obtain ⟨n1, n2⟩ := n hs
    rcases z with z | z
    · exact n1 z
    · exact n2 z
theorem start_ok {K : PySem.W.Frag} {dp dq : Addr} {F H : Hp} {st : DSt} {ds : List D} {vs : List V} {N : List Str} (hf : Same F H) (hd : DealP dp dq F H st) (r : Reps K dp F ds vs) :
    Ok K ⟨dp, dq, hide st dp dq H, F⟩ F (initS N.length ds st) (L2.start N vs) H where
  fh := hf
  gh := fun b u e => (hide_some e).1
  ff := Same.refl _
  gf := fun _ _ _ => rfl
  dl := hd
  dg := fun h => by
    constructor
    · show hide st dp dq H dp = none
      unfold hide
      rw [if_pos ⟨h, .inl rfl⟩]
    · show hide st dp dq H dq = none
      unfold hide
      rw [if_pos ⟨h, .inr rfl⟩]
  sl := fun i s e => by
    have e' : (ds.map Slot.val ++ List.replicate (N.length - ds.length) Slot.un)[i]? = some s := e
    by_cases hi : i < ds.length
    · rw [List.getElem?_append_left (by simpa using hi)] at e'
      rw [List.getElem?_map] at e'
      have hd' : ds[i]? = some ds[i] := by simp [hi]
      rw [hd'] at e'
      cases e'
      obtain ⟨v, q1, q2⟩ := r.get hd'
      refine ⟨v, ?_, q2⟩
      unfold L2.start
      rw [List.getElem?_append_left (by rw [List.length_map, ← r.length]; exact hi), List.getElem?_map, q1]
      rfl
    · rw [List.getElem?_append_right (by simpa using hi)] at e'
      have := List.mem_of_getElem? e'
      rw [List.mem_replicate] at this
      rw [this.2]
      trivial
  ap := fun i j o o' v n e1 => by
    have e' : (ds.map Slot.val ++ List.replicate (N.length - ds.length) Slot.un)[i]? = some (.own o) := e1
    have := List.mem_of_getElem? e'
    rw [List.mem_append] at this
    rcases this with z | z
    · obtain ⟨d, _, q⟩ := List.mem_map.mp z
      cases q
    · rw [List.mem_replicate] at z
      cases z.2
  len := by
    show (ds.map Slot.val ++ List.replicate (N.length - ds.length) Slot.un).length = (L2.start N vs).length
    unfold L2.start
    simp [r.length]
theorem Ok.after {K : PySem.W.Frag} {dp dq : Addr} {F F' H H' : Hp} {st : DSt} {S : Sta} {σ : L2.St} (k : Ok K ⟨dp, dq, hide st dp dq H, F⟩ F' S σ H') : After st S.st dp dq F H F' H' :=
  ⟨k.ff, k.fh, k.gh, fun b hb => by
    obtain ⟨o, e⟩ := some_of_ne hb
    exact k.gf b o e, k.dl⟩
theorem RR.rf {K : PySem.W.Frag} {dp dq : Addr} {F F' H H' : Hp} {st : DSt} {S : Sta} {σ : L2.St} (k : Ok K ⟨dp, dq, hide st dp dq H, F⟩ F' S σ H') (hst : st ≠ none → S.st ≠ none) {r : R} {v : V} (h : RR K ⟨dp, dq, hide st dp dq H, F⟩ F' H' S σ r v) : RF K dp F' H' H r v := by
  cases r with
  | val d => exact h
  | own o =>
    obtain ⟨⟨a, ho, rfl, f, g, d, q, r⟩, _⟩ := h
    refine ⟨a, ho, rfl, ?_, f, q, r⟩
    cases e : H a with
    | none => rfl
    | some u =>
      have := hide_of (st := st) (dp := dp) (dq := dq) e fun hs => d (hst hs)
      have g' : hide st dp dq H a = none := g
      rw [this] at g'
      cases g'
/-- a def does what its body does -/
def stOk (st st' : DSt) : Bool := st.isSome == st'.isSome
theorem stOk_ne {st st' : DSt} (h : stOk st st' = true) : st ≠ none ↔ st' ≠ none := by
  cases st <;> cases st' <;> simp_all [stOk]
def fnB (n N : Nat) (g : M Fl) : Fn := fun ds st => match runB n N g ds st with
  | .ok r st' => if stOk st st' then .ok r st' else .bad
  | _ => .bad
section
variable {P : Program} {w : World} {K : PySem.W.Frag} {mg : Str → Option Value} {base : Heap} {x qual : Str} {params : Arguments} {body : List Stmt} {scope : Scope} {dvs : List V} {kws : List (Str × V)} {f : Addr} {fd : FuncData}
theorem fn_ok {N ps : List Str} {k : Nat} {g : M Fl} (F : FunD K x qual params body scope dvs kws f fd) (Sc : FnScope N ps scope)
    (hb : ∀ (cdv : Value) (A : Around) (outer : List Env) (s : Shared) (H : Hp) (E : XK), Room k (A.deeper (envOfC qual scope s.heap.objs.size f cdv)) → DSs (cxOf CX0 P w K mg base N qual scope f cdv A outer s H E).nox noE body g) :
    FnOk P w K mg base CX0 (k + 1) f fd ps (spD K ps.length (fnB ps.length N.length g)) := by
  refine F.ok Sc (fun vs H Q E h => ?_) (fun cdv A outer s H vs Q E hr h => ⟨tS K noE g, (hb cdv A outer s H E hr).nox, ?_⟩)
  · obtain ⟨_, _, _, _, _, hl, _⟩ := h
    exact hl
  · obtain ⟨dp, dq, F', ds, st, hl, hf, hd, r, q⟩ := h
    refine ⟨_, F', _, start_ok hf hd r, ?_⟩
    unfold fnB runB at q
    have hl2 : ds.length = ps.length := r.length.trans hl
    rw [if_pos hl2] at q
    cases e : g (initS N.length ds st) with
    | ok fl S =>
      simp only [e] at q
      cases fl with
      | nx =>
        simp only at q
        cases hz : stOk st S.st with
        | false => rw [hz] at q; exact q.elim
        | true =>
          rw [hz] at q
          simp only [if_true] at q
          exact fun σ' F2 H2 s2 k2 => q .non F2 H2 k2.after .non
      | ret r =>
        simp only at q
        cases hz : stOk st S.st with
        | false => rw [hz] at q; exact q.elim
        | true =>
          rw [hz] at q
          simp only [if_true] at q
          exact fun v σ' F2 H2 s2 k2 rr => q v F2 H2 k2.after (rr.rf k2 (stOk_ne hz).mp)
      | brk => exact q.elim
      | cnt => exact q.elim
    | exc x S => simp only [e] at q
    | bad => simp only [e] at q
end

/-! ### calls of defs -/
def callM (n : Nat) (fn : Fn) (g : M (List D)) : M R := mb g fun ds => fun S => if ds.length = n then (match fn ds S.st with
  | .ok r st' => if stOk S.st st' then .ok r { S with st := st' } else .bad
  | _ => .bad) else .bad
theorem call_after {K : PySem.W.Frag} {W : Wd} {F F' H H' : Hp} {S : Sta} {σ : L2.St} {st' : DSt} (k : Ok K W F S σ H) (hst : S.st ≠ none ↔ st' ≠ none) (A : After S.st st' W.dp W.dq F H F' H') : Ok K W F' { S with st := st' } σ H' := by
  have hid : ∀ {a : Addr} {ho : HO}, H a = some ho → (S.st ≠ none → a ≠ W.dp ∧ a ≠ W.dq) → F' a = F a ∧ H' a = some ho := fun {a ho} e n => by
    have q := hide_of (st := S.st) (dp := W.dp) (dq := W.dq) e n
    exact ⟨A.hn a (by rw [q]; simp), A.hh a _ q⟩
  have gd : ∀ b o, W.G b = some o → S.st ≠ none → b ≠ W.dp ∧ b ≠ W.dq := fun b o e h => by
    obtain ⟨g1, g2⟩ := k.dg h
    exact ⟨fun z => (by rw [z, g1] at e; cases e), fun z => (by rw [z, g2] at e; cases e)⟩
  refine ⟨A.fh, fun b o e => (hid (k.gh b o e) (gd b o e)).2, k.ff.trans A.ff, fun b o e => ?_, A.dl, fun h => k.dg (hst.mpr h), fun i s e => ?_, k.ap, k.len⟩
  · rw [(hid (k.gh b o e) (gd b o e)).1]; exact k.gf b o e
  · have q := k.sl i s e
    cases s with
    | un => trivial
    | val d => obtain ⟨v, e1, r⟩ := q; exact ⟨v, e1, r.mono A.ff⟩
    | own o =>
      obtain ⟨v, e1, a, ho, e2, f, g, d, q, r⟩ := q
      obtain ⟨h1, h2⟩ := hid q d
      exact ⟨v, e1, a, ho, e2, h1.trans f, g, fun h => d (hst.mpr h), h2, r.mono A.ff⟩
theorem call_rr {K : PySem.W.Frag} {W : Wd} {F F' H H' : Hp} {S : Sta} {σ : L2.St} {st' : DSt} (k : Ok K W F S σ H) (hst : S.st ≠ none ↔ st' ≠ none) {r : R} {v : V} (h : RF K W.dp F' H' H r v) : RR K W F' H' { S with st := st' } σ r v := by
  cases r with
  | val d => exact h
  | own o =>
    obtain ⟨a, ho, rfl, e1, f, q, r⟩ := h
    refine ⟨⟨a, ho, rfl, f, k.gh.free e1, fun h => ?_, q, r⟩, fun i o' e z => ?_⟩
    · obtain ⟨⟨cs, m⟩, es⟩ := some_of_ne (hst.mpr h)
      have y := k.dl
      rw [es] at y
      obtain ⟨_, _, _, h4, h5⟩ := y
      exact ⟨(ne_of_none h4 e1).symm, (ne_of_none h5 e1).symm⟩
    · obtain ⟨v, e2, a', ho', e3, _, _, _, q', _⟩ := k.sl i _ e
      rw [z] at e2
      cases e2
      cases e3
      rw [e1] at q'
      cases q'
theorem tCall_of {n : Nat} {fn : Fn} {ga : M (List D)} : ∀ σ H Q, tD X.K E (callM n fn ga) σ H Q → tA X.K E ga σ H fun vs H1 => spD X.K n fn (vs ++ []) H1 Q E0 := by
  intro σ H Q ⟨W, F, S, k, p⟩
  refine tA_bind k p fun ds S1 vs F1 H1 s1 k1 rr p1 => ?_
  rw [List.append_nil]
  by_cases hl : ds.length = n
  · rw [if_pos hl] at p1
    refine ⟨W.dp, W.dq, F1, ds, S1.st, rr.length.symm.trans hl, k1.fh, k1.dl, rr, ?_⟩
    cases e : fn ds S1.st with
    | ok r st' =>
      simp only [e] at p1 ⊢
      cases hz : stOk S1.st st' with
      | false => rw [hz] at p1; exact p1.elim
      | true =>
        rw [hz] at p1
        simp only [if_true] at p1
        have hne := stOk_ne hz
        exact fun v F' H' A rf => p1 v F' H' A.ff (call_after k1 hne A) (call_rr k1 hne rf)
    | exc x st' => simp only [e] at p1; exact p1.elim
    | bad => simp only [e] at p1; exact p1.elim
  · rw [if_neg hl] at p1; exact p1.elim
variable {k n : Nat} {fa : Addr} {fd : FuncData} {ps : List Str} {fn : Fn} {x : Str} {p pos : Pos} {e : Expr} {es : List Expr} {ga : M (List D)}
theorem de_call (F : FnOk X.prog X.w X.K X.mg X.base CX0 k fa fd ps (spD X.K n fn)) (hr : Room k X.A) (hg : Gl X x) (hm : X.mg x = some (.ref fa)) (hk : PySem.W.keepIn X.K (.ref fa) = true) (hb : Binds X.K fd ps [])
    (ha : DA X E (e :: es) ga) (hdb : (x == ("__debug__" : Str)) = false := by decide) (he : starEach (e :: es) X.env = (false, eval e X.env) :: starEach es X.env := by rfl) (hpl : (backTo pos (starEach es X.env)).any (·.1) = false := by rfl) :
    DE X E (.Call (.Name x p) (e :: es) [] pos) (callM n fn ga) :=
  PE.mono' (pe_call F hr hg hm hk hb .nil pass0 ha hdb he hpl) fun σ H Q q => tCall_of σ H Q q
theorem de_call0 (F : FnOk X.prog X.w X.K X.mg X.base CX0 k fa fd ps (spD X.K n fn)) (hr : Room k X.A) (hg : Gl X x) (hm : X.mg x = some (.ref fa)) (hk : PySem.W.keepIn X.K (.ref fa) = true) (hb : Binds X.K fd ps [])
    (hdb : (x == ("__debug__" : Str)) = false := by decide) : DE X E (.Call (.Name x p) [] [] pos) (callM n fn (mp [])) := by
  refine PE.mono' (pe_call0 F hr hg hm hk hb .nil pass0 hdb) fun σ H Q q => ?_
  obtain ⟨W, F', S, k', pp⟩ := tCall_of σ H Q q
  exact pp [] F' H (Same.refl _) k' .nil
/-- f(e, .., k = v, ..) -/
abbrev DK (X : Cx) (E : WX) (e : List Keyword) (f : M (List D)) : Prop := PK X e (tA X.K E f)
theorem PK.mono' {e : List Keyword} {t t' : TA} (h : PK X e t) (m : ∀ σ H Q, t' σ H Q → t σ H Q) : PK X e t' := ⟨fun pos pins s σ H Q I q => h.run pos pins s σ H Q I (m σ H Q q)⟩
theorem dk_nil : DK X E [] (mp []) := PK.mono' pk_nil fun σ H Q ⟨W, F, S, k, p⟩ => p [] F H (Same.refl _) k .nil
theorem dk_cons {f : M R} {kws : List Keyword} {nm : Option Str} {kpos : Pos} (ha : DE X E e f) (hr : DK X E kws ga) : DK X E (⟨nm, e, kpos⟩ :: kws) (aCons f ga) := by
  refine PK.mono' (pk_cons ha hr) fun σ H Q ⟨W, F, S, k, p⟩ => ?_
  refine tD_bindA k p fun r1 S1 v1 F1 H1 s1 k1 rr1 p1 => ?_
  refine tA_bindA k1 p1 fun ds S2 vs F2 H2 s2 k2 rr2 p2 => ?_
  exact p2 _ F2 H2 (Same.refl _) k2 (.cons (rr1.mono s2) rr2)
def aPerm (g : M (List D)) (pm : List D → List D) : M (List D) := mb g fun ds => mp (pm ds)

/-! ### slices -/
def PostO (K : PySem.W.Frag) (E : WX) (W : Wd) (F : Hp) (σ : L2.St) (r : Res (Option Int)) (Q : Option Int → Hp → Prop) : Prop := match r with
  | .ok b S' => ∀ F' H', Same F F' → Ok K W F' S' σ H' → Q b H'
  | .exc x S' => PostX K E W F x S' σ
  | .bad => False
def tO (K : PySem.W.Frag) (E : WX) (f : M (Option Int)) : TO := fun σ H Q => ∃ W F S, Ok K W F S σ H ∧ PostO K E W F σ (f S) Q
abbrev DO (X : Cx) (E : WX) (e : Option Expr) (f : M (Option Int)) : Prop := PO X e (tO X.K E f)
theorem PO.mono' {e : Option Expr} {t t' : TO} (h : PO X e t) (m : ∀ σ H Q, t' σ H Q → t σ H Q) : PO X e t' := ⟨fun pins s σ H Q I q => h.run pins s σ H Q I (m σ H Q q)⟩
def oSome (f : M R) : M (Option Int) := mb f fun r => match r.d with
  | .int i => mp (some i)
  | _ => fun _ => .bad
theorem do_none : DO X E none (mp none) := PO.mono' po_none fun σ H Q ⟨W, F, S, k, p⟩ => p F H (Same.refl _) k
theorem do_some {f : M R} (h : DE X E e f) : DO X E (some e) (oSome f) := by
  refine PO.mono' (po_some h) fun σ H Q ⟨W, F, S, k, p⟩ => ?_
  have q : tD X.K E f σ H fun x H1 => ∃ i, x = .int i ∧ Q (some i) H1 := by
    refine tD_bind (PR := fun F r => PostO X.K E W F σ r Q) k p (fun _ z => z) (fun _ _ z => z) (fun r F' s z => ?_) fun r S' v F' H' s k' rr p' => ?_
    · cases r with
      | ok b S' => exact fun F2 H2 s2 => z F2 H2 (s.trans s2)
      | exc x S' => exact PostX.mono s z
      | bad => exact z
    · cases hd : r.d with
      | int i => rw [hd] at rr; simp only [hd] at p'; cases rr; exact ⟨i, rfl, p' F' H' (Same.refl _) k'⟩
      | _ => simp only [hd] at p'; exact p'.elim
  exact q
def SlD (K : PySem.W.Frag) (op : D → Option Int → Option Int → Option R) (r : V → Option Int → Option Int → Hp → VK → Prop) : Prop := ∀ W F S σ H d lo hi x res Q, Ok K W F S σ H → Rep K W.dp F d x → op d lo hi = some res →
  (∀ v F' H', Same F F' → Ok K W F' S σ H' → RR K W F' H' S σ res v → Q v H') → r x lo hi H Q
def slM (op : D → Option Int → Option Int → Option R) (f : M R) (l u : M (Option Int)) : M R := mb f fun r => mb l fun lo => mb u fun hi => mo (op r.d lo hi)
theorem tO_bindE {K : PySem.W.Frag} {W : Wd} {F : Hp} {σ : L2.St} {f : M (Option Int)} {g : Option Int → M R} {S : Sta} {H : Hp} {Q : VK} {Q' : Option Int → Hp → Prop} (k : Ok K W F S σ H) (hp : PostE K E W F σ (mb f g S) Q)
    (ho : ∀ b S' F' H', Same F F' → Ok K W F' S' σ H' → PostE K E W F' σ (g b S') Q → Q' b H') : tO K E f σ H Q' := by
  refine ⟨W, F, S, k, ?_⟩
  unfold mb at hp
  cases e : f S with
  | ok ds S' => rw [e] at hp; exact fun F' H' s k' => ho ds S' F' H' s k' (PostE.mono s hp)
  | exc x S' => rw [e] at hp; exact hp
  | bad => rw [e] at hp; exact hp
theorem de_slice {lo hi : Option Expr} {p2 : Pos} {op : D → Option Int → Option Int → Option R} {r : V → Option Int → Option Int → Hp → VK → Prop} {f : M R} {l u : M (Option Int)} (hr : SlR X r) (hd : SlD X.K op r) (he : DE X E e f) (hl : DO X E lo l) (hu : DO X E hi u) :
    DE X E (.Subscript e (.Slice lo hi none p2) pos) (slM op f l u) := by
  refine PE.mono' (pe_slice hr he hl hu) fun σ H Q ⟨W, F, S, k, p⟩ => ?_
  refine tD_bindE k p fun r1 S1 v1 F1 H1 s1 k1 rr1 p1 => ?_
  refine tO_bindE k1 p1 fun lo S2 F2 H2 s2 k2 p2 => ?_
  refine tO_bindE k2 p2 fun hi S3 F3 H3 s3 k3 p3 => ?_
  obtain ⟨res, e, q⟩ := mo_some p3
  exact hd W F3 S3 σ H3 _ lo hi v1 res Q k3 (rr1.mono (s2.trans s3)) e q

/-! ### what walks -/
theorem Yields.at {K : PySem.W.Frag} {W : Wd} {F : Hp} {ds : List D} {vs : List V} (r : Reps K W.dp F ds vs) {J : It} {G : Hp → Prop} (wk : Walk J vs.length G (YAt vs)) (hG : ∀ H, Same F H → G H) : Yields K W F J ds := by
  refine ⟨G, YAt vs, by rw [r.length]; exact wk, hG, fun i H x H' hi _ y => .inl ⟨y.1, ?_⟩⟩
  obtain ⟨d, e, q⟩ := r.getV y.2
  exact ⟨d, e, q⟩
def seqI (f : M R) : M (List D) := mb f fun r => match r.d with
  | .lst ds => mp ds
  | _ => fun _ => .bad
def tupI (f : M R) : M (List D) := mb f fun r => match r.d with
  | .tup ds => mp ds
  | _ => fun _ => .bad
theorem tD_bindI {K : PySem.W.Frag} {W : Wd} {F : Hp} {σ : L2.St} {f : M R} {g : R → M (List D)} {S : Sta} {H : Hp} {Q : VK} {R : It → Hp → Prop} (k : Ok K W F S σ H) (hp : PostI K E W F σ (mb f g S) R)
    (ho : ∀ r S' v F' H', Same F F' → Ok K W F' S' σ H' → Rep K W.dp F' r.d v → PostI K E W F' σ (g r S') R → Q v H') : tD K E f σ H Q := by
  refine tD_bind (PR := fun F r => PostI K E W F σ r R) k hp (fun _ z => z) (fun _ _ z => z) (fun r F' s z => ?_) ho
  cases r with
  | ok b S' => exact fun J F2 H2 s2 => z J F2 H2 (s.trans s2)
  | exc x S' => exact PostX.mono s z
  | bad => exact z
theorem tA_bindI {K : PySem.W.Frag} {W : Wd} {F : Hp} {σ : L2.St} {f : M (List D)} {g : List D → M (List D)} {S : Sta} {H : Hp} {Q : List V → Hp → Prop} {R : It → Hp → Prop} (k : Ok K W F S σ H) (hp : PostI K E W F σ (mb f g S) R)
    (ho : ∀ ds S' vs F' H', Same F F' → Ok K W F' S' σ H' → Reps K W.dp F' ds vs → PostI K E W F' σ (g ds S') R → Q vs H') : tA K E f σ H Q := by
  refine ⟨W, F, S, k, ?_⟩
  have mono : ∀ {r : Res (List D)} {F' : Hp}, Same F F' → PostI K E W F σ r R → PostI K E W F' σ r R := fun {r F'} s z => by
    cases r with
    | ok b S' => exact fun J F2 H2 s2 => z J F2 H2 (s.trans s2)
    | exc x S' => exact PostX.mono s z
    | bad => exact z
  unfold mb at hp
  cases e : f S with
  | ok ds S' => rw [e] at hp; exact fun vs F' H' s k' rr => ho ds S' vs F' H' s k' rr (mono s hp)
  | exc x S' => rw [e] at hp; exact hp
  | bad => rw [e] at hp; exact hp
variable {tg : Expr} {f : M R}
theorem di_list (he : DE X E e f) : DI X E tg e (seqI f) := by
  refine PI.mono' (pi_list he) fun σ H R ⟨W, F, S, k, p⟩ => ?_
  refine tD_bindI k p fun r S1 v F1 H1 s1 k1 rr p1 => ?_
  cases hd : r.d with
  | lst ds =>
    rw [hd] at rr
    simp only [hd] at p1
    obtain ⟨a, vs, rfl, hf, rs⟩ := rr.lstV
    refine ⟨a, rfl, ⟨vs, .inl (.inl (k1.fh _ _ hf))⟩, p1 _ F1 H1 (Same.refl _) k1 (.at rs walk_list fun H' s' => .inl (.inl (s' _ _ hf)))⟩
  | _ => simp only [hd] at p1; exact p1.elim
theorem di_tup (he : DE X E e f) : DI X E tg e (tupI f) := by
  refine PI.mono' (pi_tup he) fun σ H R ⟨W, F, S, k, p⟩ => ?_
  refine tD_bindI k p fun r S1 v F1 H1 s1 k1 rr p1 => ?_
  cases hd : r.d with
  | tup ds =>
    rw [hd] at rr
    simp only [hd] at p1
    obtain ⟨a, vs, rfl, hf, rs⟩ := rr.tupV
    refine ⟨a, rfl, ⟨vs, Same.seqT k1.fh hf⟩, p1 _ F1 H1 (Same.refl _) k1 (.at rs walk_tup fun H' s' => Same.seqT s' hf)⟩
  | _ => simp only [hd] at p1; exact p1.elim
/-- the script -/
def scrI (f : M R) : M (List D) := mb f fun r => match r.d with
  | .scr ns => mp (ns.map D.int)
  | _ => fun _ => .bad
def rangeD (lo hi : Int) : List D := (List.range (hi - lo).toNat).map fun (i : Nat) => D.int (lo + (i : Int))
theorem yields_range {K : PySem.W.Frag} {W : Wd} {F : Hp} {lo : Int} {n : Nat} : Yields K W F (Itr lo n) ((List.range n).map fun (i : Nat) => D.int (lo + (i : Int))) := by
  refine ⟨fun _ => True, YFn fun i => .int (lo + (i : Int)), by simpa using walk_range, fun _ _ => trivial, fun i H x H' hi _ y => .inl ⟨y.1, .int (lo + (i : Int)), ?_, ?_⟩⟩
  · rw [List.getElem?_map, List.getElem?_range (by simpa using hi)]; rfl
  · rw [y.2]; exact .int _
def rangeI1 (g : M (List D)) : M (List D) := mb g fun ds => match ds with
  | [.int j] => if -(2 ^ 62) ≤ j ∧ j < 2 ^ 62 then mp (rangeD 0 j) else fun _ => .bad
  | _ => fun _ => .bad
def rangeI2 (g : M (List D)) : M (List D) := mb g fun ds => match ds with
  | [.int i, .int j] => if -(2 ^ 62) ≤ i ∧ i < 2 ^ 62 ∧ -(2 ^ 62) ≤ j ∧ j < 2 ^ 62 then mp (rangeD i j) else fun _ => .bad
  | _ => fun _ => .bad
theorem yields_rangeD {K : PySem.W.Frag} {W : Wd} {F : Hp} {lo hi : Int} : Yields K W F (Itr lo (hi - lo).toNat) (rangeD lo hi) := yields_range
variable {e2 : Expr}
theorem di_range1 (hg : Gl X "range") (hm : X.mg "range" = none) (ha : DA X E [e] ga) (hs : starEach [e] X.env = [(false, eval e X.env)] := by rfl) : DI X E tg (.Call (.Name "range" p) [e] [] pos) (rangeI1 ga) := by
  refine PI.mono' (pi_range1 hg hm ha hs) fun σ H R ⟨W, F, S, k, p⟩ => ?_
  refine tA_bindI k p fun ds S1 vs F1 H1 s1 k1 rr p1 => ?_
  cases rr with
  | nil => exact p1.elim
  | @cons d ds v vs r rs =>
    cases rs with
    | cons _ _ => cases d <;> exact p1.elim
    | nil =>
      cases r with
      | int j =>
        by_cases hj : -(2 ^ 62) ≤ j ∧ j < 2 ^ 62
        · have p2 : PostI X.K E W F1 σ (mp (rangeD 0 j) S1) R := by
            have e : (if -(2 ^ 62) ≤ j ∧ j < 2 ^ 62 then mp (rangeD 0 j) else fun _ => Res.bad) S1 = mp (rangeD 0 j) S1 := by rw [if_pos hj]
            rw [← e]
            exact p1
          refine ⟨j, rfl, hj.1, hj.2, p2 _ F1 H1 (Same.refl _) k1 ?_⟩
          have q := yields_rangeD (K := X.K) (W := W) (F := F1) (lo := 0) (hi := j)
          rw [Int.sub_zero] at q
          exact q
        · have p2 : PostI X.K E W F1 σ ((fun _ => Res.bad : M (List D)) S1) R := by
            have e : (if -(2 ^ 62) ≤ j ∧ j < 2 ^ 62 then mp (rangeD 0 j) else fun _ => Res.bad) S1 = Res.bad := by rw [if_neg hj]
            show PostI X.K E W F1 σ Res.bad R
            rw [← e]
            exact p1
          exact p2.elim
      | _ => exact p1.elim
theorem di_range2 (hg : Gl X "range") (hm : X.mg "range" = none) (ha : DA X E [e, e2] ga) (hs : starEach [e, e2] X.env = [(false, eval e X.env), (false, eval e2 X.env)] := by rfl) (hs2 : starEach [e2] X.env = [(false, eval e2 X.env)] := by rfl) :
    DI X E tg (.Call (.Name "range" p) [e, e2] [] pos) (rangeI2 ga) := by
  refine PI.mono' (pi_range2 hg hm ha hs hs2) fun σ H R ⟨W, F, S, k, p⟩ => ?_
  refine tA_bindI k p fun ds S1 vs F1 H1 s1 k1 rr p1 => ?_
  cases rr with
  | nil => exact p1.elim
  | @cons d ds v vs r rs =>
    cases rs with
    | nil => cases d <;> exact p1.elim
    | @cons d2 ds v2 vs r2 rs =>
      cases rs with
      | cons _ _ => cases d <;> first | exact p1.elim | (cases d2 <;> exact p1.elim)
      | nil =>
        cases r with
        | int i =>
          cases r2 with
          | int j =>
            by_cases hj : -(2 ^ 62) ≤ i ∧ i < 2 ^ 62 ∧ -(2 ^ 62) ≤ j ∧ j < 2 ^ 62
            · have p2 : PostI X.K E W F1 σ (mp (rangeD i j) S1) R := by
                have e : (if -(2 ^ 62) ≤ i ∧ i < 2 ^ 62 ∧ -(2 ^ 62) ≤ j ∧ j < 2 ^ 62 then mp (rangeD i j) else fun _ => Res.bad) S1 = mp (rangeD i j) S1 := by rw [if_pos hj]
                rw [← e]
                exact p1
              exact ⟨i, j, rfl, hj, p2 _ F1 H1 (Same.refl _) k1 yields_rangeD⟩
            · have p2 : PostI X.K E W F1 σ Res.bad R := by
                have e : (if -(2 ^ 62) ≤ i ∧ i < 2 ^ 62 ∧ -(2 ^ 62) ≤ j ∧ j < 2 ^ 62 then mp (rangeD i j) else fun _ => Res.bad) S1 = Res.bad := by rw [if_neg hj]
                rw [← e]
                exact p1
              exact p2.elim
          | _ => exact p1.elim
        | _ => exact p1.elim
end
end DD

end
section
set_option Elab.async false
set_option Elab.async false
set_option linter.all false
set_option maxRecDepth 100000
set_option maxHeartbeats 2000000
set_option autoImplicit false
namespace DD
open PySem PySem.Spec PyProof.Rows L2

section
variable {K : PySem.W.Frag} {dp : Addr} {F : Hp}
theorem Rep.intV {i : Int} {v : V} (h : Rep K dp F (.int i) v) : v = .int i := by cases h; rfl
theorem Rep.strV {i : Str} {v : V} (h : Rep K dp F (.str i) v) : v = .str i := by cases h; rfl
theorem Rep.blV {i : Bool} {v : V} (h : Rep K dp F (.bl i) v) : v = .bl i := by cases h; rfl
theorem Rep.nonV {v : V} (h : Rep K dp F .non v) : v = .non := by cases h; rfl
theorem Rep.tyV {i : String} {v : V} (h : Rep K dp F (.ty i) v) : v = .ty i := by cases h; rfl
theorem Rep.adrV {i : Addr} {v : V} (h : Rep K dp F (.adr i) v) : v = .ref i := by cases h; rfl
end

/-! ### ints -/
theorem ifs {α : Type} {c : Prop} [Decidable c] {a b : α} (h : (if c then some a else none) = some b) : c ∧ a = b := by
  by_cases hc : c
  · rw [if_pos hc] at h; exact ⟨hc, Option.some.inj h⟩
  · rw [if_neg hc] at h; cases h
def addD : D → D → Option R
  | .int i, .int j => some (.val (.int (i + j)))
  | .str a, .str b => if a.length + b.length ≤ sizeLine then some (.val (.str (a ++ b))) else none
  | .tup a, .tup b => if a.length + b.length ≤ sizeLine then some (.val (.tup (a ++ b))) else none
  | .lst a, .lst b => if a.length + b.length ≤ sizeLine then some (.own (.lst (a ++ b))) else none
  | _, _ => none
def rAddD (K : PySem.W.Frag) : R2 := fun x y H Q => (rI0 fun i j => .int (i + j)) x y H Q ∨ (∃ i j, x = .str i ∧ y = .str j ∧ i.length + j.length ≤ sizeLine ∧ Q (.str (i ++ j)) H) ∨ rCatA K x y H Q ∨ rCat x y H Q
theorem op_addD {X : Cx} : OpR X (binaryOp .Add) (rAddD X.K) := OpR.or op_add (OpR.or op_add_str (OpR.or op_catA op_cat))
section
variable {K : PySem.W.Frag} {W : Wd} {F H : Hp} {S : Sta} {σ : L2.St}
theorem cat_tup_ok {a b : List D} {x y : V} {Q : VK} (k : Ok K W F S σ H) (r1 : Rep K W.dp F (.tup a) x) (r2 : Rep K W.dp F (.tup b) y) (hz : a.length + b.length ≤ sizeLine)
    (q : ∀ v F' H', Same F F' → Ok K W F' S σ H' → Rep K W.dp F' (.tup (a ++ b)) v → Q v H') : rCatA K x y H Q := by
  obtain ⟨p1, vs, rfl, h1, s1⟩ := r1.tupV
  obtain ⟨p2, ws, rfl, h2, s2⟩ := r2.tupV
  refine ⟨p1, p2, vs, ws, rfl, rfl, Same.seqT k.fh h1, Same.seqT k.fh h2, by rw [← s1.length, ← s2.length]; exact hz, fun e => ?_, fun _ e => ?_, fun _ _ p hp => ?_⟩
  · subst e
    have ea : a = [] := List.eq_nil_of_length_eq_zero s1.length
    subst ea
    exact q _ F H (Same.refl _) k (.tup h2 s2)
  · subst e
    have ea : b = [] := List.eq_nil_of_length_eq_zero s2.length
    subst ea
    rw [List.append_nil] at q
    exact q _ F H (Same.refl _) k (.tup h1 s1)
  · obtain ⟨sF, k2⟩ := k.newF (o := .tup (vs ++ ws)) hp
    exact q _ _ _ sF k2 (.tup (.inl (.inl upd_same)) ((s1.app s2).mono sF))
theorem addD_ok : OpD K addD (rAddD K) := by
  intro W F S σ H d1 d2 x y res Q k r1 r2 e q
  cases d1 with
  | int i =>
    cases d2 with
    | int j =>
      cases e
      obtain rfl := r1.intV
      obtain rfl := r2.intV
      exact .inl ⟨i, j, rfl, rfl, q _ F H (Same.refl _) k (.int _)⟩
    | _ => cases e
  | str i =>
    cases d2 with
    | str j =>
      obtain ⟨hz, rfl⟩ := ifs e
      obtain rfl := r1.strV
      obtain rfl := r2.strV
      exact .inr (.inl ⟨i, j, rfl, rfl, hz, q _ F H (Same.refl _) k (.str _)⟩)
    | _ => cases e
  | tup a =>
    cases d2 with
    | tup b =>
      obtain ⟨hz, rfl⟩ := ifs e
      exact .inr (.inr (.inl (cat_tup_ok k r1 r2 hz q)))
    | _ => cases e
  | lst a =>
    cases d2 with
    | lst b =>
      obtain ⟨hz, rfl⟩ := ifs e
      obtain ⟨p1, vs, rfl, h1, s1⟩ := r1.lstV
      obtain ⟨p2, ws, rfl, h2, s2⟩ := r2.lstV
      refine .inr (.inr (.inr ⟨p1, p2, vs, ws, rfl, rfl, k.fh _ _ h1, k.fh _ _ h2, by rw [← s1.length, ← s2.length]; exact hz, fun p hp => ?_⟩))
      exact q _ F _ (Same.refl _) (k.newO hp) (k.ownNew hp ⟨vs ++ ws, rfl, s1.app s2⟩)
    | _ => cases e
  | _ => cases e
end
def subD : D → D → Option R
  | .int i, .int j => some (.val (.int (i - j)))
  | _, _ => none
theorem subD_ok {K : PySem.W.Frag} : OpD K subD (rI0 fun i j => .int (i - j)) := by
  intro W F S σ H d1 d2 x y res Q k r1 r2 e q
  cases d1 with
  | int i =>
    cases d2 with
    | int j =>
      cases e
      obtain rfl := r1.intV
      obtain rfl := r2.intV
      exact ⟨i, j, rfl, rfl, q _ F H (Same.refl _) k (.int _)⟩
    | _ => cases e
  | _ => cases e
/-- ints with a condition -/
def intD (C : Int → Int → Bool) (g : Int → Int → Int) : D → D → Option R
  | .int i, .int j => if C i j then some (.val (.int (g i j))) else none
  | _, _ => none
theorem intD_ok {K : PySem.W.Frag} {C : Int → Int → Bool} {C' : Int → Int → Prop} {g : Int → Int → Int} (hC : ∀ i j, C i j = true → C' i j) : OpD K (intD C g) (rI C' fun i j => .int (g i j)) := by
  intro W F S σ H d1 d2 x y res Q k r1 r2 e q
  cases d1 with
  | int i =>
    cases d2 with
    | int j =>
      obtain ⟨hz, rfl⟩ := ifs e
      obtain rfl := r1.intV
      obtain rfl := r2.intV
      exact ⟨i, j, rfl, rfl, hC i j hz, q _ F H (Same.refl _) k (.int _)⟩
    | _ => cases e
  | _ => cases e
def modD : D → D → Option R := intD (fun _ j => decide (0 < j)) fun i j => i % j
def fdivD : D → D → Option R := intD (fun _ j => decide (0 < j) && decide (j.natAbs.log2 < 9000)) fun i j => i / j
def powD : D → D → Option R := intD (fun i j => decide (0 ≤ j) && decide (j ≤ 1000000) && decide (i.natAbs < 2 ^ 64)) fun i j => i ^ j.toNat
theorem modD_ok {K : PySem.W.Frag} : OpD K modD (rI (fun _ j => 0 < j) fun i j => .int (i % j)) := intD_ok fun _ _ h => of_decide_eq_true h
theorem fdivD_ok {K : PySem.W.Frag} : OpD K fdivD (rI CDivW fun i j => .int (i / j)) := intD_ok fun _ _ h => by
  simp only [Bool.and_eq_true, decide_eq_true_eq] at h
  exact h
theorem powD_ok {K : PySem.W.Frag} : OpD K powD (rI CPow fun i j => .int (i ^ j.toNat)) := intD_ok fun _ _ h => by
  simp only [Bool.and_eq_true, decide_eq_true_eq] at h
  exact ⟨h.1.1, h.1.2, h.2⟩
/-- times: ints, a list so many times -/
def mulD : D → D → Option R
  | .int i, .int j => if i.natAbs.log2 + j.natAbs.log2 < 1000000 then some (.val (.int (i * j))) else none
  | .lst a, .int n => if -(2 ^ 63) ≤ n ∧ n < 2 ^ 63 ∧ a.length * n.toNat ≤ sizeLine then some (.own (.lst (List.replicate n.toNat a).flatten)) else none
  | _, _ => none
def rMulD : R2 := fun x y H Q => (rI CMulW fun i j => .int (i * j)) x y H Q ∨ rRep x y H Q
theorem op_mulD {X : Cx} : OpR X (binaryOp .Mult) rMulD := OpR.or op_mulW op_rep
theorem Reps.rep {K : PySem.W.Frag} {dp : Addr} {F : Hp} {ds : List D} {vs : List V} (r : Reps K dp F ds vs) : ∀ n : Nat, Reps K dp F (List.replicate n ds).flatten (List.replicate n vs).flatten
  | 0 => .nil
  | n + 1 => by
    rw [List.replicate_succ, List.replicate_succ, List.flatten_cons, List.flatten_cons]
    exact r.app (Reps.rep r n)
theorem mulD_ok {K : PySem.W.Frag} : OpD K mulD rMulD := by
  intro W F S σ H d1 d2 x y res Q k r1 r2 e q
  cases d1 with
  | int i =>
    cases d2 with
    | int j =>
      obtain ⟨hz, rfl⟩ := ifs e
      obtain rfl := r1.intV
      obtain rfl := r2.intV
      exact .inl ⟨i, j, rfl, rfl, hz, q _ F H (Same.refl _) k (.int _)⟩
    | _ => cases e
  | lst a =>
    cases d2 with
    | int n =>
      obtain ⟨hz, rfl⟩ := ifs e
      obtain rfl := r2.intV
      obtain ⟨p1, vs, rfl, h1, s1⟩ := r1.lstV
      refine .inr ⟨p1, n, vs, rfl, rfl, k.fh _ _ h1, hz.1, hz.2.1, by rw [← s1.length]; exact hz.2.2, fun p hp => ?_⟩
      exact q _ F _ (Same.refl _) (k.newO hp) (k.ownNew hp ⟨_, rfl, s1.rep _⟩)
    | _ => cases e
  | _ => cases e

/-! ### order -/
def cmpD (pi : Int → Int → Bool) : D → D → Option R
  | .int i, .int j => some (.val (.bl (pi i j)))
  | _, _ => none
theorem cmpD_ok {K : PySem.W.Frag} {pi : Int → Int → Bool} : OpD K (cmpD pi) (rI0 fun i j => .bl (pi i j)) := by
  intro W F S σ H d1 d2 x y res Q k r1 r2 e q
  cases d1 with
  | int i =>
    cases d2 with
    | int j =>
      cases e
      obtain rfl := r1.intV
      obtain rfl := r2.intV
      exact ⟨i, j, rfl, rfl, q _ F H (Same.refl _) k (.bl _)⟩
    | _ => cases e
  | _ => cases e
def ltD : D → D → Option R := cmpD fun i j => decide (i < j)
def leD : D → D → Option R := cmpD fun i j => decide (i ≤ j)
def gtD : D → D → Option R := cmpD fun i j => decide (j < i)
def geD : D → D → Option R := cmpD fun i j => decide (j ≤ i)

/-! ### being the same -/
mutual
def D.py : D → Option PyData
  | .non => some .none
  | .bl b => some (.bool b)
  | .int i => some (.int i)
  | .str x => some (.str x)
  | .tup ds => (pys ds).map .tuple
  | .lst ds => (pys ds).map .list
  | _ => none
def pys : List D → Option (List PyData)
  | [] => some []
  | d :: ds => match d.py, pys ds with
    | some p, some ps => some (p :: ps)
    | _, _ => none
end
mutual
theorem py_dp {K : PySem.W.Frag} {dp : Addr} {F H : Hp} (s : Same F H) : ∀ {d : D} {v : V} {p : PyData}, Rep K dp F d v → d.py = some p → Dp K H v p
  | .non, _, _, r, e => by cases r; simp only [D.py] at e; cases e; exact .non
  | .bl b, _, _, r, e => by cases r; simp only [D.py] at e; cases e; exact .bl _
  | .int b, _, _, r, e => by cases r; simp only [D.py] at e; cases e; exact .int _
  | .str b, _, _, r, e => by cases r; simp only [D.py] at e; cases e; exact .str _
  | .tup ds, _, _, r, e => by
    simp only [D.py] at e
    obtain ⟨ps, e1, rfl⟩ := Option.map_eq_some_iff.mp e
    obtain ⟨a, vs, rfl, h, rs⟩ := r.tupV
    exact .tup (Same.seqT s h) (pys_dp s rs e1)
  | .lst ds, _, _, r, e => by
    simp only [D.py] at e
    obtain ⟨ps, e1, rfl⟩ := Option.map_eq_some_iff.mp e
    obtain ⟨a, vs, rfl, h, rs⟩ := r.lstV
    exact .lst (.inl (.inl (s _ _ h))) (pys_dp s rs e1)
  | .ty _, _, _, _, e => by simp only [D.py] at e; cases e
  | .adr _, _, _, _, e => by simp only [D.py] at e; cases e
  | .obj _ _ _, _, _, _, e => by simp only [D.py] at e; cases e
  | .dct _ _, _, _, _, e => by simp only [D.py] at e; cases e
  | .dctT _ _, _, _, _, e => by simp only [D.py] at e; cases e
  | .scr _, _, _, _, e => by simp only [D.py] at e; cases e
  | .deal, _, _, _, e => by simp only [D.py] at e; cases e
theorem pys_dp {K : PySem.W.Frag} {dp : Addr} {F H : Hp} (s : Same F H) : ∀ {ds : List D} {vs : List V} {ps : List PyData}, Reps K dp F ds vs → pys ds = some ps → DpAll K H vs ps
  | [], _, _, r, e => by cases r; simp only [pys] at e; cases e; exact .nil
  | d :: ds, _, _, r, e => by
    cases r with
    | cons h rs =>
      simp only [pys] at e
      cases e1 : d.py with
      | none => rw [e1] at e; cases e
      | some p =>
        cases e2 : pys ds with
        | none => rw [e1, e2] at e; cases e
        | some ps =>
          rw [e1, e2] at e
          cases e
          exact .cons (py_dp s h e1) (pys_dp s rs e2)
end
def eqvD (a b : D) : Option Bool := match a.py, b.py with
  | some p, some q => if SeqAt.shaped p && SeqAt.shaped q then some (PyData.eqv p q) else none
  | _, _ => none
def eqD (a b : D) : Option R := (eqvD a b).map fun b => .val (.bl b)
def neD (a b : D) : Option R := (eqvD a b).map fun b => .val (.bl (!b))
theorem eqvD_ok {K : PySem.W.Frag} {dp : Addr} {F H : Hp} {a b : D} {x y : V} {t : Bool} (s : Same F H) (r1 : Rep K dp F a x) (r2 : Rep K dp F b y) (e : eqvD a b = some t) :
    ∃ p q, Dp K H x p ∧ Dp K H y q ∧ SeqAt.shaped p = true ∧ SeqAt.shaped q = true ∧ PyData.eqv p q = t := by
  unfold eqvD at e
  cases e1 : a.py with
  | none => rw [e1] at e; cases e
  | some p =>
    cases e2 : b.py with
    | none => rw [e1, e2] at e; cases e
    | some q =>
      rw [e1, e2] at e
      simp only at e
      split at e
      · rename_i hz
        rw [Bool.and_eq_true] at hz
        cases e
        exact ⟨p, q, py_dp s r1 e1, py_dp s r2 e2, hz.1, hz.2, rfl⟩
      · cases e
theorem eqD_ok {K : PySem.W.Frag} : OpD K eqD (rEqD K) := by
  intro W F S σ H d1 d2 x y res Q k r1 r2 e q
  obtain ⟨t, e1, rfl⟩ := Option.map_eq_some_iff.mp e
  obtain ⟨p, p2, h1, h2, h3, h4, rfl⟩ := eqvD_ok k.fh r1 r2 e1
  exact ⟨p, p2, h1, h2, h3, h4, q _ F H (Same.refl _) k (.bl _)⟩
theorem neD_ok {K : PySem.W.Frag} : OpD K neD (rNeD K) := by
  intro W F S σ H d1 d2 x y res Q k r1 r2 e q
  obtain ⟨t, e1, rfl⟩ := Option.map_eq_some_iff.mp e
  obtain ⟨p, p2, h1, h2, h3, h4, rfl⟩ := eqvD_ok k.fh r1 r2 e1
  exact ⟨p, p2, h1, h2, h3, h4, q _ F H (Same.refl _) k (.bl _)⟩
/-- is, is not of None and bools -/
def rIsP : R2 := fun x y H Q => (y = .non ∨ ∃ b, y = .bl b) ∧ Q (.bl (decide (x = y))) H
def rIsNP : R2 := fun x y H Q => (y = .non ∨ ∃ b, y = .bl b) ∧ Q (.bl (!decide (x = y))) H
theorem isP_beq {x y : V} {v u : Value} (rx : RelV x v) (ry : RelV y u) (h : y = .non ∨ ∃ b, y = .bl b) : plainIs v u = true ∧ (v == u) = decide (x = y) := by
  have key : plainIs v u = true ∧ (v = u ↔ x = y) := by
    rcases h with rfl | ⟨b, rfl⟩
    · cases (show u = Value.none from ry)
      cases x with
      | int i => obtain ⟨t, rfl⟩ := rx; exact ⟨rfl, by constructor <;> intro z <;> cases z⟩
      | str i => obtain ⟨t, rfl⟩ := rx; exact ⟨rfl, by constructor <;> intro z <;> cases z⟩
      | byt i => obtain ⟨t, rfl⟩ := rx; exact ⟨rfl, by constructor <;> intro z <;> cases z⟩
      | flt i => obtain ⟨t, rfl⟩ := rx; exact ⟨rfl, by constructor <;> intro z <;> cases z⟩
      | non => cases rx; exact ⟨rfl, by simp⟩
      | bl c => cases rx; exact ⟨rfl, by constructor <;> intro z <;> cases z⟩
      | ref c => cases rx; exact ⟨rfl, by constructor <;> intro z <;> cases z⟩
      | ty c => cases rx; exact ⟨rfl, by constructor <;> intro z <;> cases z⟩
    · cases (show u = Value.bool b from ry)
      cases x with
      | int i => obtain ⟨t, rfl⟩ := rx; exact ⟨rfl, by constructor <;> intro z <;> cases z⟩
      | str i => obtain ⟨t, rfl⟩ := rx; exact ⟨rfl, by constructor <;> intro z <;> cases z⟩
      | byt i => obtain ⟨t, rfl⟩ := rx; exact ⟨rfl, by constructor <;> intro z <;> cases z⟩
      | flt i => obtain ⟨t, rfl⟩ := rx; exact ⟨rfl, by constructor <;> intro z <;> cases z⟩
      | non => cases rx; exact ⟨rfl, by constructor <;> intro z <;> cases z⟩
      | bl c => cases rx; exact ⟨rfl, by simp⟩
      | ref c => cases rx; exact ⟨rfl, by constructor <;> intro z <;> cases z⟩
      | ty c => cases rx; exact ⟨rfl, by constructor <;> intro z <;> cases z⟩
  refine ⟨key.1, ?_⟩
  by_cases e : x = y
  · rw [decide_eq_true e]
    exact beq_iff_eq.mpr (key.2.mpr e)
  · rw [decide_eq_false e]
    exact beq_eq_false_iff_ne.mpr fun z => e (key.2.mp z)
theorem op_isP {X : Cx} : OpR X (compareOp .Is) rIsP := by
  intro pins s σ H x y v u Q I rx ry h
  obtain ⟨hy, q⟩ := h
  obtain ⟨h1, h2⟩ := isP_beq rx ry hy
  exact wpAny_is_plain h1 ⟨.bl _, H, I, (by rw [h2]; rfl), q⟩
theorem op_isNP {X : Cx} : OpR X (compareOp .IsNot) rIsNP := by
  intro pins s σ H x y v u Q I rx ry h
  obtain ⟨hy, q⟩ := h
  obtain ⟨h1, h2⟩ := isP_beq rx ry hy
  exact wpAny_isNot_plain h1 ⟨.bl _, H, I, (by rw [h2]; rfl), q⟩
def isB : D → D → Option Bool
  | .non, .non => some true
  | _, .non => some false
  | .bl a, .bl b => some (a == b)
  | _, .bl _ => some false
  | _, _ => none
def isD (a b : D) : Option R := (isB a b).map fun b => .val (.bl b)
def isnD (a b : D) : Option R := (isB a b).map fun b => .val (.bl (!b))
theorem isB_ok {K : PySem.W.Frag} {dp : Addr} {F : Hp} {a b : D} {x y : V} {t : Bool} (r1 : Rep K dp F a x) (r2 : Rep K dp F b y) (e : isB a b = some t) : (y = .non ∨ ∃ b, y = .bl b) ∧ decide (x = y) = t := by
  cases r2 with
  | non => cases r1 <;> (simp only [isB] at e; cases e; exact ⟨.inl rfl, by simp⟩)
  | bl b =>
    cases r1 with
    | bl c =>
      simp only [isB] at e
      cases e
      exact ⟨.inr ⟨b, rfl⟩, dec_bl⟩
    | _ => simp only [isB] at e; cases e; exact ⟨.inr ⟨b, rfl⟩, by simp⟩
  | _ => cases r1 <;> (simp only [isB] at e; cases e)
theorem isD_ok {K : PySem.W.Frag} : OpD K isD rIsP := by
  intro W F S σ H d1 d2 x y res Q k r1 r2 e q
  obtain ⟨t, e1, rfl⟩ := Option.map_eq_some_iff.mp e
  obtain ⟨h, rfl⟩ := isB_ok r1 r2 e1
  exact ⟨h, q _ F H (Same.refl _) k (.bl _)⟩
theorem isnD_ok {K : PySem.W.Frag} : OpD K isnD rIsNP := by
  intro W F S σ H d1 d2 x y res Q k r1 r2 e q
  obtain ⟨t, e1, rfl⟩ := Option.map_eq_some_iff.mp e
  obtain ⟨h, rfl⟩ := isB_ok r1 r2 e1
  exact ⟨h, q _ F H (Same.refl _) k (.bl _)⟩

/-! ### items, slices -/
def ixD : D → D → Option R
  | .tup ds, .int i => (atI ds i).map .val
  | .lst ds, .int i => (atI ds i).map .val
  | .str z, .int i => if z.length ≤ sizeLine then (atI z.cps.toList i).map fun c => .val (.str ⟨#[c]⟩) else none
  | _, _ => none
theorem Reps.at {K : PySem.W.Frag} {dp : Addr} {F : Hp} {ds : List D} {vs : List V} (r : Reps K dp F ds vs) {i : Int} {d : D} (e : atI ds i = some d) : ∃ v, atI vs i = some v ∧ Rep K dp F d v := by
  unfold atI at e ⊢
  rw [r.length] at e
  cases z : ixN vs.length i with
  | none => rw [z] at e; cases e
  | some j =>
    rw [z] at e
    exact r.get e
theorem ixD_ok {K : PySem.W.Frag} : OpD K ixD (rIx K) := by
  intro W F S σ H d1 d2 x y res Q k r1 r2 e q
  cases d1 with
  | tup a =>
    cases d2 with
    | int n =>
      obtain ⟨d, e1, rfl⟩ := Option.map_eq_some_iff.mp (show (atI a n).map R.val = some res from e)
      obtain rfl := r2.intV
      obtain ⟨p1, vs, rfl, h1, s1⟩ := r1.tupV
      obtain ⟨v, e2, r3⟩ := s1.at e1
      exact .inr (.inl ⟨p1, vs, n, v, rfl, rfl, Same.seqT k.fh h1, e2, q _ F H (Same.refl _) k r3⟩)
    | _ => cases e
  | lst a =>
    cases d2 with
    | int n =>
      obtain ⟨d, e1, rfl⟩ := Option.map_eq_some_iff.mp (show (atI a n).map R.val = some res from e)
      obtain rfl := r2.intV
      obtain ⟨p1, vs, rfl, h1, s1⟩ := r1.lstV
      obtain ⟨v, e2, r3⟩ := s1.at e1
      exact .inl ⟨p1, vs, n, v, rfl, rfl, .inl (.inl (k.fh _ _ h1)), e2, q _ F H (Same.refl _) k r3⟩
    | _ => cases e
  | str z =>
    cases d2 with
    | int n =>
      have e' : (if z.length ≤ sizeLine then (atI z.cps.toList n).map (fun c => R.val (.str ⟨#[c]⟩)) else none) = some res := e
      by_cases hz : z.length ≤ sizeLine
      · rw [if_pos hz] at e'
        obtain ⟨c, e1, rfl⟩ := Option.map_eq_some_iff.mp e'
        obtain rfl := r1.strV
        obtain rfl := r2.intV
        exact .inr (.inr ⟨z, n, c, rfl, rfl, hz, e1, q _ F H (Same.refl _) k (.str _)⟩)
      · rw [if_neg hz] at e'
        cases e'
    | _ => cases e
  | _ => cases e
def cutL {α : Type} (xs : List α) (lo hi : Option Int) : List α := (xs.drop (HT.sIx xs.length 0 lo)).take (HT.sIx xs.length xs.length hi - HT.sIx xs.length 0 lo)
theorem Reps.cut {K : PySem.W.Frag} {dp : Addr} {F : Hp} {ds : List D} {vs : List V} (r : Reps K dp F ds vs) (lo hi : Option Int) : Reps K dp F (cutL ds lo hi) (cutV vs lo hi) := by
  unfold cutL cutV
  rw [r.length]
  exact (r.drop _).take _
def slD : D → Option Int → Option Int → Option R
  | .tup ds, lo, hi => some (.val (.tup (cutL ds lo hi)))
  | .lst ds, lo, hi => some (.own (.lst (cutL ds lo hi)))
  | .scr ns, lo, hi => some (.own (.lst (cutL (ns.map D.int) lo hi)))
  | _, _, _ => none
def rSlD (K : PySem.W.Frag) : V → Option Int → Option Int → Hp → VK → Prop := fun x lo hi H Q => rSlA K x lo hi H Q ∨ rSlL K x lo hi H Q
theorem sl_D {X : Cx} : SlR X (rSlD X.K) := SlR.or sl_tupA sl_list
theorem slD_ok {K : PySem.W.Frag} : SlD K slD (rSlD K) := by
  intro W F S σ H d lo hi x res Q k r1 e q
  cases d with
  | tup a =>
    cases e
    obtain ⟨p1, vs, rfl, h1, s1⟩ := r1.tupV
    refine .inl ⟨p1, vs, rfl, Same.seqT k.fh h1, fun hw => ?_, fun _ p hp => ?_⟩
    · have ec : cutL a lo hi = a := by
        unfold cutL
        rw [s1.length, hw.1, hw.2, List.drop_zero, Nat.sub_zero, ← s1.length, List.take_length]
      have q2 := q (.ref p1) F H (Same.refl _) k
      rw [ec] at q2
      exact q2 (.tup h1 s1)
    · obtain ⟨sF, k2⟩ := k.newF (o := .tup (cutV vs lo hi)) hp
      exact q _ _ _ sF k2 (.tup (.inl (.inl upd_same)) ((s1.cut lo hi).mono sF))
  | lst a =>
    cases e
    obtain ⟨p1, vs, rfl, h1, s1⟩ := r1.lstV
    exact .inr ⟨p1, vs, rfl, .inl (.inl (k.fh _ _ h1)), fun p hp => q _ F _ (Same.refl _) (k.newO hp) (k.ownNew hp ⟨_, rfl, s1.cut lo hi⟩)⟩
  | scr ns =>
    cases e
    cases r1 with
    | scr h => exact .inr ⟨_, _, rfl, k.fh.seq h, fun p hp => q _ F _ (Same.refl _) (k.newO hp) (k.ownNew hp ⟨_, rfl, (Reps.ints ns).cut lo hi⟩)⟩
  | _ => cases e
/-- xs[::-1] of a list -/
def revD : D → Option R
  | .lst ds => some (.own (.lst ds.reverse))
  | _ => none
theorem Reps.reverse {K : PySem.W.Frag} {dp : Addr} {F : Hp} : ∀ {ds : List D} {vs : List V}, Reps K dp F ds vs → Reps K dp F ds.reverse vs.reverse
  | _, _, .nil => .nil
  | _, _, .cons h r => by
    rw [List.reverse_cons, List.reverse_cons]
    exact (Reps.reverse r).app (.cons h .nil)
theorem de_revL {X : Cx} {E : WX} {e : Expr} {f : M R} {k : Nat} {p1 p2 p3 pos : Pos} (he : DE X E e f) : DE X E (.Subscript e (.Slice none none (some (.UnaryOp .USub (.Constant (.int 1) k p1) p2)) p3) pos) (una revD f) := by
  refine PE.mono' (pe_revL he) fun σ H Q ⟨W, F, S, k, p⟩ => ?_
  refine tD_bindE k p fun r1 S1 v1 F1 H1 s1 k1 rr1 p1 => ?_
  obtain ⟨res, e, q⟩ := mo_some p1
  cases hd : r1.d with
  | lst a =>
    rw [hd] at e rr1
    cases e
    obtain ⟨p1, vs, rfl, h1, s1⟩ := rr1.lstV
    exact ⟨p1, vs, rfl, .inl (.inl (k1.fh _ _ h1)), fun p hp => q _ F1 _ (Same.refl _) (k1.newO hp) (k1.ownNew hp ⟨_, rfl, s1.reverse⟩)⟩
  | _ => rw [hd] at e; cases e
end DD

end
section
set_option Elab.async false
set_option Elab.async false
set_option linter.all false
set_option maxRecDepth 100000
set_option maxHeartbeats 2000000
set_option autoImplicit false
namespace DD
open PySem PySem.Spec PyProof.Rows L2

/-! ### len -/
def lenD : List D → Option R
  | [.tup ds] => some (.val (.int ds.length))
  | [.lst ds] => some (.val (.int ds.length))
  | [.str z] => if z.length ≤ sizeLine then some (.val (.int z.length)) else none
  | _ => none
def rLenD (K : PySem.W.Frag) : List V → Hp → VK → Prop := fun xs H Q => ∃ x n, xs = [x] ∧ LenV K x H n ∧ Q (.int (n : Nat)) H
theorem lenD_ok {K : PySem.W.Frag} : LsD K lenD (rLenD K) := by
  intro W F S σ H ds xs res Q k r e q
  match ds, r, e with
  | [.tup ds], r, e =>
    cases e
    obtain ⟨v, rfl, r1⟩ := r.one
    obtain ⟨a, vs, rfl, h, rs⟩ := r1.tupV
    exact ⟨_, ds.length, rfl, .inr ⟨vs, Same.seqT k.fh h, rs.length⟩, q _ F H (Same.refl _) k (.int _)⟩
  | [.lst ds], r, e =>
    cases e
    obtain ⟨v, rfl, r1⟩ := r.one
    obtain ⟨a, vs, rfl, h, rs⟩ := r1.lstV
    exact ⟨_, ds.length, rfl, .inl ⟨vs, .inl (.inl (k.fh _ _ h)), rs.length⟩, q _ F H (Same.refl _) k (.int _)⟩
  | [.str z], r, e =>
    obtain ⟨hz, rfl⟩ := ifs (show (if z.length ≤ sizeLine then some (R.val (.int z.length)) else none) = some res from e)
    obtain ⟨v, rfl, r1⟩ := r.one
    obtain rfl := r1.strV
    exact ⟨_, z.length, rfl, ⟨hz, rfl⟩, q _ F H (Same.refl _) k (.int _)⟩
/-- len(x), x a name: what it owns stays owned -/
def lenV (i : Nat) : M R := fun S => match S.sl[i]? with
  | some (.own (.lst xs)) => .ok (.val (.int xs.length)) S
  | some (.val d) => mo (lenD [d]) S
  | _ => .bad
section
variable {X : Cx} {E : WX} {x : Str} {p pos : Pos} {e : Expr} {es : List Expr} {f g : M R} {ga : M (List D)}
theorem de_callB {id : String} {r : List V → Hp → VK → Prop} {op : List D → Option R} (hc : CallR X (.builtin id) r) (hd : LsD X.K op r) (hg : Gl X x) (hm : X.mg x = none) (hv : bootBuiltins x = some (.builtin id)) (ha : DA X E (e :: es) ga) (hn : x ≠ "__name__" := by decide) (hdb : (x == ("__debug__" : Str)) = false := by decide)
    (he : starEach (e :: es) X.env = (false, eval e X.env) :: starEach es X.env := by rfl) (hpl : (backTo pos (starEach es X.env)).any (·.1) = false := by rfl) : DE X E (.Call (.Name x p) (e :: es) [] pos) (lsM op ga) :=
  PE.mono' (pe_callB hc hg hm hv ha hn hdb he hpl) (tLs_of hd)
theorem de_callTy {T : String} {r : List V → Hp → VK → Prop} {op : List D → Option R} (hc : CallR X (.type T) r) (hd : LsD X.K op r) (hg : Gl X x) (hm : X.mg x = none) (hv : bootBuiltins x = some (.type T)) (ha : DA X E (e :: es) ga) (hn : x ≠ "__name__" := by decide) (hdb : (x == ("__debug__" : Str)) = false := by decide)
    (he : starEach (e :: es) X.env = (false, eval e X.env) :: starEach es X.env := by rfl) (hpl : (backTo pos (starEach es X.env)).any (·.1) = false := by rfl) : DE X E (.Call (.Name x p) (e :: es) [] pos) (lsM op ga) :=
  PE.mono' (pe_callTy hc hg hm hv ha hn hdb he hpl) (tLs_of hd)
theorem de_len (hg : Gl X "len") (hm : X.mg "len" = none) (ha : DA X E [e] ga) (he : starEach [e] X.env = (false, eval e X.env) :: starEach [] X.env := by rfl) : DE X E (.Call (.Name "len" p) [e] [] pos) (lsM lenD ga) :=
  de_callB call_len lenD_ok hg hm PySem.boot_len ha (he := he)
theorem de_lenV {i : Nat} (hg : Gl X "len") (hm : X.mg "len" = none) (h : PE X e (tVar i)) (he : starEach [e] X.env = (false, eval e X.env) :: starEach [] X.env := by rfl) : DE X E (.Call (.Name "len" p) [e] [] pos) (lenV i) := by
  refine PE.mono' (pe_callB call_len hg hm PySem.boot_len (pa_cons h pa_nil he) (he := he)) fun σ H Q ⟨W, F, S, k, pp⟩ => ?_
  unfold lenV at pp
  cases e1 : S.sl[i]? with
  | none => rw [e1] at pp; exact pp.elim
  | some s =>
    rw [e1] at pp
    cases s with
    | un => exact pp.elim
    | val d =>
      obtain ⟨v, q1, r1⟩ := k.sl i _ e1
      obtain ⟨res, e2, q2⟩ := mo_some (show PostE X.K E W F σ (mo (lenD [d]) S) Q from pp)
      exact ⟨v, q1, lenD_ok W F S σ H [d] [v] res Q k (.cons r1 .nil) e2 q2⟩
    | own o =>
      cases o with
      | lst xs =>
        obtain ⟨v, q1, a, ho, rfl, f, g, d, q, vs, rfl, rs⟩ := k.sl i _ e1
        refine ⟨_, q1, _, xs.length, rfl, .inl ⟨vs, .inl (.inl q), rs.length⟩, pp _ F H (Same.refl _) k (.int _)⟩
      | _ => exact pp.elim
/-- x[i], x a name that owns a list -/
def ixV (i : Nat) (g : M R) : M R := fun S => match S.sl[i]? with
  | none => .bad
  | some .un => .bad
  | _ => mb g (fun r => fun S => match S.sl[i]? with
    | some (.own (.lst xs)) => (match r.d with
      | .int n => mo ((atI xs n).map .val) S
      | _ => .bad)
    | some (.val d) => mo (ixD d r.d) S
    | _ => .bad) S
theorem slot_v {K : PySem.W.Frag} {W : Wd} {F H : Hp} {S : Sta} {σ : L2.St} (k : Ok K W F S σ H) {i : Nat} {s : Slot} (e : S.sl[i]? = some s) (n : s ≠ .un) : ∃ v, σ[i]? = some (some v) := by
  have q := k.sl i s e
  cases s with
  | un => exact absurd rfl n
  | val d => obtain ⟨v, q, _⟩ := q; exact ⟨v, q⟩
  | own o => obtain ⟨v, q, _⟩ := q; exact ⟨v, q⟩
theorem de_ixV {i : Nat} {b : Expr} (h : PE X e (tVar i)) (hb : DE X E b g) (hs : PlainIx b) : DE X E (.Subscript e b pos) (ixV i g) := by
  refine PE.mono' (pe_ix ix_seq h hb hs) fun σ H Q ⟨W, F, S, k, pp⟩ => ?_
  unfold ixV at pp
  have go : ∀ s, S.sl[i]? = some s → s ≠ .un → PostE X.K E W F σ (mb g (fun r => fun S => match S.sl[i]? with
    | some (.own (.lst xs)) => (match r.d with
      | .int n => mo ((atI xs n).map .val) S
      | _ => .bad)
    | some (.val d) => mo (ixD d r.d) S
    | _ => .bad) S) Q → tOp (rIx X.K) (tVar i) (tD X.K E g) σ H Q := by
    intro s es ns pp
    obtain ⟨v, ev⟩ := slot_v k es ns
    refine ⟨v, ev, tD_bindE k pp fun r1 S1 v1 F1 H1 s1 k1 rr1 p1 => ?_⟩
    cases e1 : S1.sl[i]? with
    | none => simp only [e1] at p1; exact p1.elim
    | some sl =>
      simp only [e1] at p1
      cases sl with
      | un => exact p1.elim
      | val d =>
        obtain ⟨w, q1, r1'⟩ := k1.sl i _ e1
        rw [ev] at q1
        cases q1
        obtain ⟨res, e2, q2⟩ := mo_some (show PostE X.K E W F1 σ (mo (ixD d r1.d) S1) Q from p1)
        exact ixD_ok W F1 S1 σ H1 _ _ v v1 res Q k1 r1' rr1 e2 q2
      | own o =>
        cases o with
        | lst xs =>
          cases hd : r1.d with
          | int n =>
            rw [hd] at rr1
            simp only [hd] at p1
            obtain rfl := rr1.intV
            obtain ⟨res, e2, q2⟩ := mo_some (show PostE X.K E W F1 σ (mo ((atI xs n).map R.val) S1) Q from p1)
            obtain ⟨d, e3, rfl⟩ := Option.map_eq_some_iff.mp e2
            obtain ⟨w, q1, a, ho, rfl, f, g', d', q, vs, rfl, rs⟩ := k1.sl i _ e1
            rw [ev] at q1
            cases q1
            obtain ⟨y, e4, r4⟩ := rs.at e3
            exact .inl ⟨a, vs, n, y, rfl, rfl, .inl (.inl q), e4, q2 _ F1 H1 (Same.refl _) k1 r4⟩
          | _ => simp only [hd] at p1; exact p1.elim
        | _ => exact p1.elim
  cases e1 : S.sl[i]? with
  | none => simp only [e1] at pp; exact pp.elim
  | some s =>
    cases s with
    | un => simp only [e1] at pp; exact pp.elim
    | val d => simp only [e1] at pp; exact go _ e1 (fun z => by cases z) (by simpa only [e1] using pp)
    | own o => simp only [e1] at pp; exact go _ e1 (fun z => by cases z) (by simpa only [e1] using pp)

/-! ### int, abs, list, tuple, sum, ord -/
def int1D : List D → Option R
  | [.int i] => some (.val (.int i))
  | [.bl b] => some (.val (.int (if b then 1 else 0)))
  | _ => none
theorem int1D_ok {K : PySem.W.Frag} : LsD K int1D (fun xs H Q => (∃ i, xs = [.int i] ∧ Q (.int i) H) ∨ ∃ k, xs = [.bl k] ∧ Q (.int (if k then 1 else 0)) H) := by
  intro W F S σ H ds xs res Q k r e q
  match ds, r, e with
  | [.int i], r, e =>
    cases e
    obtain ⟨v, rfl, r1⟩ := r.one
    obtain rfl := r1.intV
    exact .inl ⟨i, rfl, q _ F H (Same.refl _) k (.int _)⟩
  | [.bl b], r, e =>
    cases e
    obtain ⟨v, rfl, r1⟩ := r.one
    obtain rfl := r1.blV
    exact .inr ⟨b, rfl, q _ F H (Same.refl _) k (.int _)⟩
def absD : List D → Option R
  | [.int i] => some (.val (.int (if i < 0 then -i else i)))
  | _ => none
theorem absD_ok {K : PySem.W.Frag} : LsD K absD (fun xs H Q => ∃ i, xs = [.int i] ∧ Q (.int (if i < 0 then -i else i)) H) := by
  intro W F S σ H ds xs res Q k r e q
  match ds, r, e with
  | [.int i], r, e =>
    cases e
    obtain ⟨v, rfl, r1⟩ := r.one
    obtain rfl := r1.intV
    exact ⟨i, rfl, q _ F H (Same.refl _) k (.int _)⟩
def listD : List D → Option R
  | [.lst ds] => some (.own (.lst ds))
  | [.tup ds] => some (.own (.lst ds))
  | _ => none
theorem listD_ok {K : PySem.W.Frag} : LsD K listD (fun xs H Q => ∃ p ys, xs = [.ref p] ∧ (SqL K H p ys ∨ SqT K H p ys) ∧ ∀ l, H l = none → Q (.ref l) (upd H l (.lst ys))) := by
  intro W F S σ H ds xs res Q k r e q
  match ds, r, e with
  | [.tup ds], r, e =>
    cases e
    obtain ⟨v, rfl, r1⟩ := r.one
    obtain ⟨a, vs, rfl, h, rs⟩ := r1.tupV
    exact ⟨a, vs, rfl, .inr (Same.seqT k.fh h), fun l hl => q _ F _ (Same.refl _) (k.newO hl) (k.ownNew hl ⟨_, rfl, rs⟩)⟩
  | [.lst ds], r, e =>
    cases e
    obtain ⟨v, rfl, r1⟩ := r.one
    obtain ⟨a, vs, rfl, h, rs⟩ := r1.lstV
    exact ⟨a, vs, rfl, .inl (.inl (.inl (k.fh _ _ h))), fun l hl => q _ F _ (Same.refl _) (k.newO hl) (k.ownNew hl ⟨_, rfl, rs⟩)⟩
def tupleD : List D → Option R
  | [.lst ds] => some (.val (.tup ds))
  | [.tup ds] => some (.val (.tup ds))
  | _ => none
theorem tupleD_ok {K : PySem.W.Frag} : LsD K tupleD (fun xs H Q => ∃ p ys, xs = [.ref p] ∧ ((SqL K H p ys ∧ ∀ l, H l = none → Q (.ref l) (upd H l (.tup ys))) ∨ (SqT K H p ys ∧ Q (.ref p) H))) := by
  intro W F S σ H ds xs res Q k r e q
  match ds, r, e with
  | [.tup ds], r, e =>
    cases e
    obtain ⟨v, rfl, r1⟩ := r.one
    obtain ⟨a, vs, rfl, h, rs⟩ := r1.tupV
    exact ⟨a, vs, rfl, .inr ⟨Same.seqT k.fh h, q _ F H (Same.refl _) k (.tup h rs)⟩⟩
  | [.lst ds], r, e =>
    cases e
    obtain ⟨v, rfl, r1⟩ := r.one
    obtain ⟨a, vs, rfl, h, rs⟩ := r1.lstV
    refine ⟨a, vs, rfl, .inl ⟨.inl (.inl (k.fh _ _ h)), fun l hl => ?_⟩⟩
    obtain ⟨sF, k2⟩ := k.newF (o := .tup vs) hl
    exact q _ _ _ sF k2 (.tup (.inl (.inl upd_same)) (rs.mono sF))
def D.int? : D → Option Int
  | .int i => some i
  | _ => none
def D.str? : D → Option Str
  | .str i => some i
  | _ => none
def allInts : List D → Option (List Int)
  | [] => some []
  | .int i :: ds => (allInts ds).map (i :: ·)
  | _ => none
def allStrs : List D → Option (List Str)
  | [] => some []
  | .str i :: ds => (allStrs ds).map (i :: ·)
  | _ => none
theorem allInts_map : ∀ ns : List Int, allInts (ns.map D.int) = some ns
  | [] => rfl
  | n :: ns => by show (allInts (ns.map D.int)).map (n :: ·) = _; rw [allInts_map ns]; rfl
theorem allStrs_map : ∀ ns : List Str, allStrs (ns.map D.str) = some ns
  | [] => rfl
  | n :: ns => by show (allStrs (ns.map D.str)).map (n :: ·) = _; rw [allStrs_map ns]; rfl
theorem allInts_of : ∀ {ds : List D} {ns : List Int}, allInts ds = some ns → ds = ns.map D.int
  | [], ns, e => by cases e; rfl
  | d :: ds, ns, e => by
    cases d with
    | int i =>
      obtain ⟨ms, e1, rfl⟩ := Option.map_eq_some_iff.mp (show (allInts ds).map (i :: ·) = some ns from e)
      rw [allInts_of e1]; rfl
    | _ => cases e
theorem allStrs_of : ∀ {ds : List D} {ns : List Str}, allStrs ds = some ns → ds = ns.map D.str
  | [], ns, e => by cases e; rfl
  | d :: ds, ns, e => by
    cases d with
    | str i =>
      obtain ⟨ms, e1, rfl⟩ := Option.map_eq_some_iff.mp (show (allStrs ds).map (i :: ·) = some ns from e)
      rw [allStrs_of e1]; rfl
    | _ => cases e
theorem Reps.strsV {K : PySem.W.Frag} {dp : Addr} {F : Hp} : ∀ {ns : List Str} {vs : List V}, Reps K dp F (ns.map D.str) vs → vs = ns.map V.str
  | [], _, .nil => rfl
  | n :: ns, _, .cons h r => by cases h; rw [Reps.strsV r]; rfl
def sumD : List D → Option R
  | [.lst ds] => (allInts ds).map fun ns => .val (.int ns.sum)
  | _ => none
theorem sumD_ok {K : PySem.W.Frag} : LsD K sumD (rSum K) := by
  intro W F S σ H ds xs res Q k r e q
  match ds, r, e with
  | [.lst ds], r, e =>
    obtain ⟨ns, e1, rfl⟩ := Option.map_eq_some_iff.mp (show (allInts ds).map (fun ns => R.val (.int ns.sum)) = some res from e)
    obtain rfl := allInts_of e1
    obtain ⟨v, rfl, r1⟩ := r.one
    obtain ⟨a, vs, rfl, h, rs⟩ := r1.lstV
    obtain rfl := rs.intsV
    exact ⟨a, ns, rfl, .inl (.inl (k.fh _ _ h)), q _ F H (Same.refl _) k (.int _)⟩
def ordD : List D → Option R
  | [.str x] => if x.length = 1 then some (.val (.int (x.cps.getD 0 0 : Nat))) else none
  | _ => none
theorem ordD_ok {K : PySem.W.Frag} : LsD K ordD (fun xs H Q => ∃ x, xs = [.str x] ∧ x.length = 1 ∧ Q (.int (x.cps.getD 0 0 : Nat)) H) := by
  intro W F S σ H ds xs res Q k r e q
  match ds, r, e with
  | [.str x], r, e =>
    obtain ⟨hz, rfl⟩ := ifs (show (if x.length = 1 then some (R.val (.int (x.cps.getD 0 0 : Nat))) else none) = some res from e)
    obtain ⟨v, rfl, r1⟩ := r.one
    obtain rfl := r1.strV
    exact ⟨x, rfl, hz, q _ F H (Same.refl _) k (.int _)⟩

/-! ### sep.join(list), list.index -/
def joinD (a : Str) (l : D) : Option R := match l with
  | .lst ds => (allStrs ds).bind fun ys => if (ys.map (·.length)).sum + ys.length * a.length ≤ 16777216 then some (.val (.str (Txt.join a ys))) else none
  | .tup ds => (allStrs ds).bind fun ys => if (ys.map (·.length)).sum + ys.length * a.length ≤ 16777216 then some (.val (.str (Txt.join a ys))) else none
  | _ => none
def joinM (f g : M R) : M R := mb f fun r1 => match r1.d with
  | .str a => mb g fun r2 => mo (joinD a r2.d)
  | _ => fun _ => .bad
theorem de_join {o : Expr} {apos : Pos} (ho : DE X E o f) (he : DE X E e g) (hs : starEach [e] X.env = [(false, eval e X.env)] := by rfl) (hbase : attributeBase o "join" X.env (eval o X.env) = eval o X.env := by rfl) (hline : (apos.endLine == pos.line) = true := by rfl) :
    DE X E (.Call (.Attribute o "join" apos) [e] [] pos) (joinM f g) := by
  refine PE.mono' (pe_join ho he hs hbase hline) fun σ H Q ⟨W, F, S, k, p⟩ => ?_
  refine tD_bindE k p fun r1 S1 v1 F1 H1 s1 k1 rr1 p1 => ?_
  obtain ⟨a, ha⟩ : ∃ a, r1.d = .str a := by
    cases hd : r1.d with
    | str a => exact ⟨a, rfl⟩
    | _ => simp only [hd] at p1; exact p1.elim
  rw [ha] at rr1
  simp only [ha] at p1
  obtain rfl := rr1.strV
  refine ⟨⟨a, rfl⟩, tD_bindE k1 p1 fun r2 S2 v2 F2 H2 s2 k2 rr2 p2 => ?_⟩
  obtain ⟨res, e2, q2⟩ := mo_some p2
  cases hd : r2.d with
  | lst ds =>
    rw [hd] at rr2 e2
    obtain ⟨ys, e3, e4⟩ := Option.bind_eq_some_iff.mp (show ((allStrs ds).bind fun ys => if (ys.map (·.length)).sum + ys.length * a.length ≤ 16777216 then some (R.val (.str (Txt.join a ys))) else none) = some res from e2)
    obtain ⟨hz, rfl⟩ := ifs e4
    obtain rfl := allStrs_of e3
    obtain ⟨b, vs, rfl, h, rs⟩ := rr2.lstV
    obtain rfl := rs.strsV
    exact ⟨a, b, ys, rfl, rfl, .inl (.inl (.inl (k2.fh _ _ h))), hz, q2 _ F2 H2 (Same.refl _) k2 (.str _)⟩
  | tup ds =>
    rw [hd] at rr2 e2
    obtain ⟨ys, e3, e4⟩ := Option.bind_eq_some_iff.mp (show ((allStrs ds).bind fun ys => if (ys.map (·.length)).sum + ys.length * a.length ≤ 16777216 then some (R.val (.str (Txt.join a ys))) else none) = some res from e2)
    obtain ⟨hz, rfl⟩ := ifs e4
    obtain rfl := allStrs_of e3
    obtain ⟨b, vs, rfl, h, rs⟩ := rr2.tupV
    obtain rfl := rs.strsV
    exact ⟨a, b, ys, rfl, rfl, .inr (Same.seqT k2.fh h), hz, q2 _ F2 H2 (Same.refl _) k2 (.str _)⟩
  | _ => rw [hd] at e2; cases e2
end
end DD

end
section
set_option Elab.async false
set_option Elab.async false
set_option linter.all false
set_option maxRecDepth 100000
set_option maxHeartbeats 2000000
set_option autoImplicit false
namespace DD
open PySem PySem.Spec PyProof.Rows L2

/-! ### in, not in, index: data of any depth -/
section
variable {X : Cx}
theorem room_in {A : Around} {d : PyData} {ds : List PyData} (sd : SeqAt.shaped d = true) (hu : A.units + 65 < cLine) : A.units + 1 + min (PyData.depthAll ds) d.depth < cLine := by
  have h1 := SeqAt.depth_of_shaped sd
  have h2 : min (PyData.depthAll ds) d.depth ≤ d.depth := Nat.min_le_right _ _
  omega
def rInT (K : PySem.W.Frag) (neg : Bool) : R2 := fun x y H Q => ∃ d ds, Dp K H x d ∧ Dp K H y (.tuple ds) ∧ SeqAt.shaped d = true ∧ SeqAt.shaped (.tuple ds) = true ∧ Q (.bl (neg ^^ ds.any fun z => PyData.eqv z d)) H
theorem op_inT (hu : X.A.units + 65 < cLine) : OpR X (compareOp .In) (rInT X.K false) := by
  intro pins s σ H x y v u Q I rx ry h
  obtain ⟨d, ds, hd, he, sd, se, q⟩ := h
  obtain ⟨as, r1⟩ := Dp.reads I d x v hd rx
  obtain ⟨bs, r2⟩ := Dp.reads I (.tuple ds) y u he ry
  exact SeqAt.in_tuple_reads r2 r1 (SeqAt.canLay_of_shaped se) (SeqAt.canLay_of_shaped sd) (room_in sd hu) ⟨.bl _, H, I, rfl, by simpa using q⟩
theorem op_notInT (hu : X.A.units + 65 < cLine) : OpR X (compareOp .NotIn) (rInT X.K true) := by
  intro pins s σ H x y v u Q I rx ry h
  obtain ⟨d, ds, hd, he, sd, se, q⟩ := h
  obtain ⟨as, r1⟩ := Dp.reads I d x v hd rx
  obtain ⟨bs, r2⟩ := Dp.reads I (.tuple ds) y u he ry
  exact SeqAt.notIn_tuple_reads r2 r1 (SeqAt.canLay_of_shaped se) (SeqAt.canLay_of_shaped sd) (room_in sd hu) ⟨.bl _, H, I, rfl, by simpa using q⟩
end
def inB (x y : D) : Option Bool := match x.py, y.py with
  | some d, some (.list ds) => if SeqAt.shaped d && SeqAt.shaped (.list ds) then some (ds.any fun z => PyData.eqv z d) else none
  | some d, some (.tuple ds) => if SeqAt.shaped d && SeqAt.shaped (.tuple ds) then some (ds.any fun z => PyData.eqv z d) else none
  | _, _ => none
def inD (x y : D) : Option R := (inB x y).map fun b => .val (.bl b)
def ninD (x y : D) : Option R := (inB x y).map fun b => .val (.bl (!b))
def rInA (K : PySem.W.Frag) : R2 := fun x y H Q => rInD K x y H Q ∨ rInT K false x y H Q
def rNinA (K : PySem.W.Frag) : R2 := fun x y H Q => rNotInD K x y H Q ∨ rInT K true x y H Q
theorem op_inA {X : Cx} (hu : X.A.units + 65 < cLine) : OpR X (compareOp .In) (rInA X.K) := OpR.or (op_inD hu) (op_inT hu)
theorem op_ninA {X : Cx} (hu : X.A.units + 65 < cLine) : OpR X (compareOp .NotIn) (rNinA X.K) := OpR.or (op_notInD hu) (op_notInT hu)
theorem inB_ok {K : PySem.W.Frag} {dp : Addr} {F H : Hp} {a b : D} {x y : V} {t : Bool} (s : Same F H) (r1 : Rep K dp F a x) (r2 : Rep K dp F b y) (e : inB a b = some t) :
    ∃ d ds, Dp K H x d ∧ SeqAt.shaped d = true ∧ ((Dp K H y (.list ds) ∧ SeqAt.shaped (.list ds) = true) ∨ (Dp K H y (.tuple ds) ∧ SeqAt.shaped (.tuple ds) = true)) ∧ (ds.any fun z => PyData.eqv z d) = t := by
  unfold inB at e
  cases e1 : a.py with
  | none => rw [e1] at e; cases e
  | some d =>
    cases e2 : b.py with
    | none => rw [e1, e2] at e; cases e
    | some p =>
      rw [e1, e2] at e
      cases p with
      | list ds =>
        obtain ⟨hz, rfl⟩ := ifs (show (if (SeqAt.shaped d && SeqAt.shaped (.list ds)) = true then some (ds.any fun z => PyData.eqv z d) else none) = some t from e)
        rw [Bool.and_eq_true] at hz
        exact ⟨d, ds, py_dp s r1 e1, hz.1, .inl ⟨py_dp s r2 e2, hz.2⟩, rfl⟩
      | tuple ds =>
        obtain ⟨hz, rfl⟩ := ifs (show (if (SeqAt.shaped d && SeqAt.shaped (.tuple ds)) = true then some (ds.any fun z => PyData.eqv z d) else none) = some t from e)
        rw [Bool.and_eq_true] at hz
        exact ⟨d, ds, py_dp s r1 e1, hz.1, .inr ⟨py_dp s r2 e2, hz.2⟩, rfl⟩
      | _ => cases e
theorem inD_ok {K : PySem.W.Frag} : OpD K inD (rInA K) := by
  intro W F S σ H d1 d2 x y res Q k r1 r2 e q
  obtain ⟨t, e1, rfl⟩ := Option.map_eq_some_iff.mp e
  obtain ⟨d, ds, h1, h2, h3, rfl⟩ := inB_ok k.fh r1 r2 e1
  rcases h3 with ⟨h3, h4⟩ | ⟨h3, h4⟩
  · exact .inl ⟨d, ds, h1, h3, h2, h4, q _ F H (Same.refl _) k (.bl _)⟩
  · exact .inr ⟨d, ds, h1, h3, h2, h4, by simpa using q _ F H (Same.refl _) k (.bl _)⟩
theorem ninD_ok {K : PySem.W.Frag} : OpD K ninD (rNinA K) := by
  intro W F S σ H d1 d2 x y res Q k r1 r2 e q
  obtain ⟨t, e1, rfl⟩ := Option.map_eq_some_iff.mp e
  obtain ⟨d, ds, h1, h2, h3, rfl⟩ := inB_ok k.fh r1 r2 e1
  rcases h3 with ⟨h3, h4⟩ | ⟨h3, h4⟩
  · exact .inl ⟨d, ds, h1, h3, h2, h4, q _ F H (Same.refl _) k (.bl _)⟩
  · exact .inr ⟨d, ds, h1, h3, h2, h4, by simpa using q _ F H (Same.refl _) k (.bl _)⟩

/-! ### isinstance -/
def D.tyN : D → Option String
  | .non => some "NoneType"
  | .bl _ => some "bool"
  | .int _ => some "int"
  | .str _ => some "str"
  | .tup _ => some "tuple"
  | .lst _ => some "list"
  | .dct _ _ => some "dict"
  | .dctT _ _ => some "dict"
  | _ => none
def plainTys : List String := ["NoneType", "bool", "int", "str", "tuple", "list", "dict"]
structure IsiF (K : PySem.W.Frag) (cs : List Addr) : Prop where
  b : ∀ C ∈ cs, ∀ t ∈ plainTys, PySem.W.kitOne K (.type t) (.ref C) = some false
  o : ∀ C ∈ cs, ∀ C' ∈ cs, PySem.W.kitOne K (.ref C) (.ref C') = some (decide (C = C'))
  t : ∀ C ∈ cs, ∀ t ∈ plainTys, PySem.W.kitOne K (.ref C) (.type t) = some false
  c : ∀ C ∈ cs, Cls K C ∧ PySem.W.findIn K (.ref C) "__class__" = some (some (.builtin "object.__class__")) ∧ PySem.W.mroIn K C (.type "object") = some true
  g : cs = [] ∨ (PySem.W.specialIn K (.builtin "object.__class__") "__get__" = some (some (.builtin "getset_descriptor.__get__")) ∧ PySem.W.takesIn K (.builtin "object.__class__") = some true)
def isi1 (cs : List Addr) (x c : D) : Option Bool := match c with
  | .ty T => (match x.tyN with
    | some t => kitB t T
    | none => (match x with
      | .obj C _ _ => if C ∈ cs ∧ T ∈ plainTys then some false else none
      | _ => none))
  | .adr C => if C ∈ cs then (match x.tyN with
    | some _ => some false
    | none => (match x with
      | .obj C' _ _ => if C' ∈ cs then some (decide (C' = C)) else none
      | _ => none)) else none
  | _ => none
def isiA (cs : List Addr) (x : D) : List D → Option Bool
  | [] => some false
  | c :: r => match isi1 cs x c with
    | some true => some true
    | some false => isiA cs x r
    | none => none
def D.isCls : D → Bool
  | .ty _ => true
  | .adr _ => true
  | _ => false
def isiD (cs : List Addr) : List D → Option R
  | [x, .tup ts] => if (ts.all D.isCls && !ts.isEmpty) = true then (isiA cs x ts).map fun b => .val (.bl b) else none
  | [x, c] => (isi1 cs x c).map fun b => .val (.bl b)
  | _ => none
def D.tyV : D → Value
  | .obj C _ _ => .ref C
  | d => match d.tyN with
    | some t => .type t
    | none => .none
def D.cv : D → Value
  | .ty T => .type T
  | .adr C => .ref C
  | _ => .none
theorem tyN_mem {d : D} {t : String} (h : d.tyN = some t) : t ∈ plainTys := by
  cases d <;> (simp only [D.tyN] at h; cases h) <;> simp [plainTys]
theorem tyN_tyX {K : PySem.W.Frag} {dp : Addr} {F H : Hp} {x : D} {v : V} {t : String} (s : Same F H) (r : Rep K dp F x v) (h : x.tyN = some t) : TyX K H v (.type t) := by
  cases r with
  | non => simp only [D.tyN] at h; cases h; exact .base .non
  | bl b => simp only [D.tyN] at h; cases h; exact .base (.bl _)
  | int i => simp only [D.tyN] at h; cases h; exact .base (.int _)
  | str i => simp only [D.tyN] at h; cases h; exact .base (.str _)
  | tup q rs =>
    simp only [D.tyN] at h; cases h
    rcases q with (q | ⟨o, q⟩) | ⟨o, its, n, q1, q2, q3, _⟩
    · exact .base (.tup (s _ _ q))
    · exact .fTuple (s _ _ q)
    · exact .kTuple q1 q2
  | lst q rs => simp only [D.tyN] at h; cases h; exact .base (.lst (s _ _ q))
  | dct q _ rs => simp only [D.tyN] at h; cases h; exact .base (.dK (s _ _ q))
  | dctT q _ rs => simp only [D.tyN] at h; cases h; exact .base (.dT (s _ _ q))
  | _ => simp only [D.tyN] at h; cases h
theorem isi1_ok {K : PySem.W.Frag} {cs : List Addr} {dp : Addr} {F H : Hp} {x c : D} {v : V} {b : Bool} (I : IsiF K cs) (s : Same F H) (r : Rep K dp F x v) (e : isi1 cs x c = some b) : TyX K H v x.tyV ∧ PySem.W.kitOne K x.tyV c.cv = some b := by
  have plain : ∀ t, x.tyN = some t → TyX K H v x.tyV ∧ x.tyV = .type t := fun t h => by
    have q := tyN_tyX s r h
    have z : x.tyV = .type t := by
      cases x <;> simp only [D.tyN] at h <;> cases h <;> rfl
    rw [z]
    exact ⟨q, rfl⟩
  have own : ∀ C ns ds, x = .obj C ns ds → C ∈ cs → TyX K H v x.tyV ∧ x.tyV = .ref C := fun C ns ds ex hC => by
    subst ex
    cases r with
    | obj h _ _ =>
      obtain ⟨h1, h2, h3⟩ := I.c C hC
      have hg : PySem.W.specialIn K (.builtin "object.__class__") "__get__" = some (some (.builtin "getset_descriptor.__get__")) ∧ PySem.W.takesIn K (.builtin "object.__class__") = some true := by
        rcases I.g with z | z
        · rw [z] at hC; cases hC
        · exact z
      exact ⟨.base (.ins (s _ _ h) h1 h2 hg.1 hg.2 h3), rfl⟩
  cases c with
  | ty T =>
    cases hx : x.tyN with
    | some t =>
      obtain ⟨q1, q2⟩ := plain t hx
      have e' : kitB t T = some b := by simpa only [isi1, hx] using e
      refine ⟨q1, ?_⟩
      rw [q2]
      exact kit_ty e'
    | none =>
      cases x with
      | obj C ns ds =>
        have e' : (if C ∈ cs ∧ T ∈ plainTys then some false else none) = some b := by simpa only [isi1, hx] using e
        obtain ⟨hz, rfl⟩ := ifs e'
        obtain ⟨q1, q2⟩ := own C ns ds rfl hz.1
        exact ⟨q1, I.t C hz.1 T hz.2⟩
      | _ => first | (simp only [isi1, hx] at e; cases e) | (simp only [D.tyN] at hx; cases hx)
  | adr C =>
    by_cases hC : C ∈ cs
    · cases hx : x.tyN with
      | some t =>
        obtain ⟨q1, q2⟩ := plain t hx
        have e' : some false = some b := by simpa only [isi1, hx, if_pos hC] using e
        cases e'
        refine ⟨q1, ?_⟩
        rw [q2]
        exact I.b C hC t (tyN_mem hx)
      | none =>
        cases x with
        | obj C' ns ds =>
          have e' : (if C' ∈ cs then some (decide (C' = C)) else none) = some b := by simpa only [isi1, hx, if_pos hC] using e
          obtain ⟨hz, rfl⟩ := ifs e'
          obtain ⟨q1, q2⟩ := own C' ns ds rfl hz
          exact ⟨q1, I.o C' hz C hC⟩
        | _ => first | (simp only [isi1, hx, if_pos hC] at e; cases e) | (simp only [D.tyN] at hx; cases hx)
    · simp only [isi1, if_neg hC] at e; cases e
  | _ => simp only [isi1] at e; cases e
theorem isi1_cls {K : PySem.W.Frag} {cs : List Addr} {dp : Addr} {F : Hp} {x c : D} {w : V} {b : Bool} (r : Rep K dp F c w) (e : isi1 cs x c = some b) : ClsV w c.cv := by
  cases r with
  | ty n => exact .ty n
  | adr a => exact .own a
  | _ => simp only [isi1] at e; cases e
theorem isiA_ok {K : PySem.W.Frag} {cs : List Addr} {dp : Addr} {F H : Hp} {x : D} {v : V} (I : IsiF K cs) (s : Same F H) (r : Rep K dp F x v) : ∀ {ts : List D} {b : Bool}, isiA cs x ts = some b → PySem.W.kitAny K x.tyV (ts.map D.cv) = some b
  | [], b, e => by cases e; rfl
  | c :: ts, b, e => by
    unfold isiA at e
    cases e1 : isi1 cs x c with
    | none => rw [e1] at e; cases e
    | some t =>
      rw [e1] at e
      obtain ⟨_, q⟩ := isi1_ok I s r e1
      cases t with
      | true => cases e; exact kitAny_cons q (fun z => by cases z) fun _ => rfl
      | false => exact kitAny_cons q (fun _ => isiA_ok I s r e) fun z => by cases z
theorem cls_paired {K : PySem.W.Frag} {dp : Addr} {F : Hp} : ∀ {ts : List D} {vs : List V}, Reps K dp F ts vs → ts.all D.isCls = true → Paired ClsV vs (ts.map D.cv)
  | _, _, .nil, _ => .nil
  | d :: ds, _, .cons h r, e => by
    rw [List.all_cons, Bool.and_eq_true] at e
    refine .cons ?_ (cls_paired r e.2)
    cases h with
    | ty n => exact .ty n
    | adr a => exact .own a
    | _ => exact absurd e.1 (by simp [D.isCls])
def rIsiS (K : PySem.W.Frag) : List V → Hp → VK → Prop := fun xs H Q => ∃ (x : V) (tp : Addr) (cs : List V) (t : Value) (us : List Value) (b : Bool), xs = [x, .ref tp] ∧ SqT K H tp cs ∧ Paired ClsV cs us ∧ TyX K H x t ∧ PySem.W.kitAny K t us = some b ∧ Q (.bl b) H
theorem call_isiS {X : Cx} : CallR X (.builtin "isinstance") (rIsiS X.K) := by
  intro pins s σ H xs us Q I r h
  obtain ⟨x, tp, cs, t, ws, b, rfl, hT, k, ty, e, q⟩ := h
  obtain ⟨u1, u2, rfl, r1, r2⟩ := vals2 r
  cases (show u2 = Value.ref tp from r2)
  obtain ⟨P, Z, p, hx⟩ := kit_of I r1 ty
  obtain ⟨its, rv, ⟨o, h1, h2, n, h3⟩, _⟩ := I.tuple hT
  have e3 := ClsV.all k rv
  subst e3
  obtain ⟨oc, od, dt, sl⟩ := o
  simp only at h2 h3
  subst h2 h3
  exact PySem.W.kia_tup Z I.kIn p h1 e hx fun tk => ⟨.bl b, H, I.tok tk, rfl, q⟩
def rIsiD (K : PySem.W.Frag) : List V → Hp → VK → Prop := fun xs H Q => rIsiS K xs H Q ∨ rIsi K xs H Q
theorem call_isiD {X : Cx} : CallR X (.builtin "isinstance") (rIsiD X.K) := CallR.or call_isiS call_isi
theorem isiD_ok {K : PySem.W.Frag} {cs : List Addr} (I : IsiF K cs) : LsD K (isiD cs) (rIsiD K) := by
  intro W F S σ H ds xs res Q k r e q
  cases r with
  | nil => cases e
  | @cons x ds v vs r1 rs =>
    cases rs with
    | nil => cases e
    | @cons c ds w ws r2 rs =>
      cases rs with
      | cons _ _ => cases c <;> cases e
      | nil =>
        have single : ∀ b, isi1 cs x c = some b → res = .val (.bl b) → rIsiD K [v, w] H Q := fun b e1 e2 => by
          subst e2
          obtain ⟨h1, h2⟩ := isi1_ok I k.fh r1 e1
          exact .inr ⟨v, w, _, _, b, rfl, isi1_cls r2 e1, h1, h2, q _ F H (Same.refl _) k (.bl _)⟩
        cases c with
        | tup ts =>
          have e' : (if (ts.all D.isCls && !ts.isEmpty) = true then (isiA cs x ts).map (fun b => R.val (.bl b)) else none) = some res := e
          by_cases hz : (ts.all D.isCls && !ts.isEmpty) = true
          · rw [if_pos hz] at e'
            rw [Bool.and_eq_true] at hz
            obtain ⟨b, e1, rfl⟩ := Option.map_eq_some_iff.mp e'
            obtain ⟨a, cs', rfl, hT, rs⟩ := r2.tupV
            cases ts with
            | nil => exact absurd hz.2 (by simp)
            | cons t0 ts =>
              have hty : TyX K H v x.tyV := by
                unfold isiA at e1
                cases e2 : isi1 cs x t0 with
                | none => rw [e2] at e1; cases e1
                | some b' => exact (isi1_ok I k.fh r1 e2).1
              exact .inl ⟨v, a, cs', _, _, b, rfl, Same.seqT k.fh hT, cls_paired rs hz.1, hty, isiA_ok I k.fh r1 e1, q _ F H (Same.refl _) k (.bl _)⟩
          · rw [if_neg hz] at e'; cases e'
        | ty T => obtain ⟨b, e1, e2⟩ := Option.map_eq_some_iff.mp (show (isi1 cs x (.ty T)).map (fun b => R.val (.bl b)) = some res from e); exact single b e1 e2.symm
        | adr T => obtain ⟨b, e1, e2⟩ := Option.map_eq_some_iff.mp (show (isi1 cs x (.adr T)).map (fun b => R.val (.bl b)) = some res from e); exact single b e1 e2.symm
        | _ => cases e

/-! ### lists that a name owns, changed by a method -/
def MutD (K : PySem.W.Frag) (op : List D → List D → Option (List D × D)) (r : V → List V → Hp → VK → Prop) : Prop :=
  ∀ dp F xs ds vs ws a H Q ys d, Same F H → Reps K dp F xs vs → Reps K dp F ds ws → H a = some (.lst vs) → op xs ds = some (ys, d) → (∀ vs' v, Reps K dp F ys vs' → Rep K dp F d v → Q v (L2.upd H a (.lst vs'))) → r (.ref a) ws H Q
def mutM (i : Nat) (g : M (List D)) (op : List D → List D → Option (List D × D)) : M R := fun S => match S.sl[i]? with
  | some (.own (.lst _)) => mb g (fun ds => fun S => match S.sl[i]? with
    | some (.own (.lst xs)) => (match op xs ds with
      | some (ys, d) => .ok (.val d) { S with sl := S.sl.set i (.own (.lst ys)) }
      | none => .bad)
    | _ => .bad) S
  | _ => .bad
section
variable {X : Cx} {E : WX} {o e : Expr} {es : List Expr} {ga : M (List D)} {name : Str} {apos cpos : Pos} {id : String} {r : V → List V → Hp → VK → Prop} {op : List D → List D → Option (List D × D)} {i : Nat}
theorem mutM_read (hd : MutD X.K op r) {W : Wd} {F H : Hp} {S : Sta} {σ : L2.St} {Q : VK} (k : Ok X.K W F S σ H) (p : PostE X.K E W F σ (mutM i ga op S) Q) :
    ∃ v, σ[i]? = some (some v) ∧ tyV X.K "list" v H ∧ tA X.K E ga σ H fun ws H2 => r v ws H2 Q := by
  unfold mutM at p
  cases e1 : S.sl[i]? with
  | none => rw [e1] at p; exact p.elim
  | some s =>
    rw [e1] at p
    cases s with
    | un => exact p.elim
    | val d => exact p.elim
    | own o =>
      cases o with
      | lst xs =>
        obtain ⟨v, ev, a, ho, rfl, f, g, d, q, vs, rfl, rs⟩ := k.sl i _ e1
        refine ⟨_, ev, .inl ⟨rfl, vs, .inl (.inl q)⟩, tA_bind k p fun ds S1 ws F1 H1 s1 k1 rr p1 => ?_⟩
        cases e2 : S1.sl[i]? with
        | none => simp only [e2] at p1; exact p1.elim
        | some s =>
          simp only [e2] at p1
          cases s with
          | un => exact p1.elim
          | val d => exact p1.elim
          | own o =>
            cases o with
            | lst xs1 =>
              simp only at p1
              obtain ⟨v, ev1, a1, ho, rfl, f, g, d, q, vs1, rfl, rs1⟩ := k1.sl i _ e2
              rw [ev] at ev1
              cases ev1
              cases e3 : op xs1 ds with
              | none => simp only [e3] at p1; exact p1.elim
              | some yd =>
                obtain ⟨ys, d⟩ := yd
                simp only [e3] at p1
                exact hd W.dp F1 xs1 ds vs1 ws a H1 Q ys d k1.fh rs1 rr q e3 fun vs' v r1 r2 => p1 v F1 _ (Same.refl _) (k1.upd e2 ev ⟨vs', rfl, r1⟩) r2
            | _ => exact p1.elim
      | _ => exact p.elim
theorem de_mut (pa : PlainAttrs "list") (slot : PySem.Slot "list" name id) (hty : typeOf (.builtin id) = pure (.type "method_descriptor")) (hm : MtR X id r) (hd : MutD X.K op r) (ho : PE X o (tVar i)) (ha : DA X E (e :: es) ga)
    (hbase : attributeBase o name X.env (eval o X.env) = eval o X.env := by rfl)
    (hfew : ((backTo cpos (starEach (e :: es) X.env)).all (fun x => !x.1) && (backToKw cpos (keywordEach [] X.env)).all (fun x => x.1.isSome)
      && decide ((e :: es).length + ([] : List Keyword).length + (if ([] : List Keyword).isEmpty then 0 else 1) < 30)) = true := by rfl)
    (hline : (apos.endLine == cpos.line) = true := by rfl) (hs : starEach (e :: es) X.env = (false, eval e X.env) :: starEach es X.env := by rfl) (hplain : (backTo cpos (starEach es X.env)).any (·.1) = false := by rfl) :
    DE X E (.Call (.Attribute o name apos) (e :: es) [] cpos) (mutM i ga op) :=
  PE.mono' (pe_bm pa slot hty hm ho ha hbase hfew hline hs hplain) fun σ H Q ⟨W, F, S, k, p⟩ => mutM_read hd k p
theorem de_mut0 (pa : PlainAttrs "list") (slot : PySem.Slot "list" name id) (hty : typeOf (.builtin id) = pure (.type "method_descriptor")) (hm : MtR X id r) (hd : MutD X.K op r) (ho : PE X o (tVar i))
    (hbase : attributeBase o name X.env (eval o X.env) = eval o X.env := by rfl) (hline : (apos.endLine == cpos.line) = true := by rfl) : DE X E (.Call (.Attribute o name apos) [] [] cpos) (mutM i (mp []) op) := by
  refine PE.mono' (pe_bm0 pa slot hty hm ho hbase hline) fun σ H Q ⟨W, F, S, k, p⟩ => ?_
  obtain ⟨v, ev, ty, W', F', S', k', p'⟩ := mutM_read hd k p
  exact ⟨v, ev, ty, p' [] F' H (Same.refl _) k' .nil⟩
end
def appendF : List D → List D → Option (List D × D)
  | xs, [y] => if xs.length < sizeLine then some (xs ++ [y], .non) else none
  | _, _ => none
theorem appendF_ok {K : PySem.W.Frag} : MutD K appendF rAppend := by
  intro dp F xs ds vs ws a H Q ys d s rx rd h e q
  match ds, rd, e with
  | [y], rd, e =>
    obtain ⟨hz, he⟩ := ifs (show (if xs.length < sizeLine then some (xs ++ [y], D.non) else none) = some (ys, d) from e)
    cases he
    obtain ⟨v, rfl, r1⟩ := rd.one
    exact ⟨a, vs, v, rfl, rfl, h, by rw [← rx.length]; exact hz, q _ _ (rx.app (.cons r1 .nil)) .non⟩
def extendF : List D → List D → Option (List D × D)
  | xs, [.lst ys] => if xs.length + ys.length ≤ sizeLine then some (xs ++ ys, .non) else none
  | _, _ => none
theorem extendF_ok {K : PySem.W.Frag} : MutD K extendF rExtend := by
  intro dp F xs ds vs ws a H Q ys d s rx rd h e q
  match ds, rd, e with
  | [.lst zs], rd, e =>
    obtain ⟨hz, he⟩ := ifs (show (if xs.length + zs.length ≤ sizeLine then some (xs ++ zs, D.non) else none) = some (ys, d) from e)
    cases he
    obtain ⟨v, rfl, r1⟩ := rd.one
    obtain ⟨b, us, rfl, hb, rs⟩ := r1.lstV
    exact ⟨a, b, vs, us, rfl, rfl, h, s _ _ hb, by rw [← rx.length, ← rs.length]; exact hz, q _ _ (rx.app rs) .non⟩
def popF : List D → List D → Option (List D × D)
  | xs, [] => (xs[xs.length - 1]?).map fun y => (xs.dropLast, y)
  | _, _ => none
theorem Reps.dropLast {K : PySem.W.Frag} {dp : Addr} {F : Hp} {ds : List D} {vs : List V} (r : Reps K dp F ds vs) : Reps K dp F ds.dropLast vs.dropLast := by
  rw [List.dropLast_eq_take, List.dropLast_eq_take, r.length]
  exact r.take _
theorem popF_ok {K : PySem.W.Frag} : MutD K popF rPop := by
  intro dp F xs ds vs ws a H Q ys d s rx rd h e q
  match ds, rd, e with
  | [], rd, e =>
    obtain ⟨y, e1, he⟩ := Option.map_eq_some_iff.mp (show (xs[xs.length - 1]?).map (fun y => (xs.dropLast, y)) = some (ys, d) from e)
    cases he
    cases rd
    obtain ⟨v, e2, r2⟩ := rx.get e1
    exact ⟨a, vs, v, rfl, rfl, h, by rw [← rx.length]; exact e2, q _ _ rx.dropLast r2⟩
def popAtF : List D → List D → Option (List D × D)
  | xs, [.int i] => if -(2 ^ 63) ≤ i ∧ i < 2 ^ 63 then (match seqIndex? i xs.length with
    | some k => (xs[k]?).map fun y => (xs.eraseIdx k, y)
    | none => none) else none
  | _, _ => none
theorem Reps.eraseIdx {K : PySem.W.Frag} {dp : Addr} {F : Hp} : ∀ {ds : List D} {vs : List V} (k : Nat), Reps K dp F ds vs → Reps K dp F (ds.eraseIdx k) (vs.eraseIdx k)
  | _, _, _, .nil => .nil
  | _, _, 0, .cons _ r => r
  | _, _, k + 1, .cons h r => .cons h (Reps.eraseIdx k r)
theorem popAtF_ok {K : PySem.W.Frag} : MutD K popAtF rPopAt := by
  intro dp F xs ds vs ws a H Q ys d s rx rd h e q
  match ds, rd, e with
  | [.int i], rd, e =>
    have e' : (if -(2 ^ 63) ≤ i ∧ i < 2 ^ 63 then (match seqIndex? i xs.length with
      | some k => (xs[k]?).map fun y => (xs.eraseIdx k, y)
      | none => none) else none) = some (ys, d) := e
    by_cases hz : -(2 ^ 63) ≤ i ∧ i < 2 ^ 63
    · rw [if_pos hz] at e'
      cases hk : seqIndex? i xs.length with
      | none => rw [hk] at e'; cases e'
      | some k =>
        rw [hk] at e'
        obtain ⟨y, e1, he⟩ := Option.map_eq_some_iff.mp e'
        cases he
        obtain ⟨v, rfl, r1⟩ := rd.one
        obtain rfl := r1.intV
        obtain ⟨v, e2, r2⟩ := rx.get e1
        exact ⟨a, vs, i, k, v, rfl, rfl, h, hz.1, hz.2, by rw [← rx.length]; exact hk, e2, q _ _ (rx.eraseIdx k) r2⟩
    · rw [if_neg hz] at e'; cases e'
def insertF : List D → List D → Option (List D × D)
  | xs, [.int i, y] => if xs.length < sizeLine ∧ 0 ≤ i ∧ i < 2 ^ 63 then some (xs.take i.toNat ++ [y] ++ xs.drop i.toNat, .non) else none
  | _, _ => none
theorem insertF_ok {K : PySem.W.Frag} : MutD K insertF (fun x vs H Q => ∃ (l : Addr) (xs : List V) (i : Int) (y : V), x = .ref l ∧ vs = [.int i, y] ∧ H l = some (.lst xs) ∧ xs.length < sizeLine ∧ 0 ≤ i ∧ i < 2 ^ 63 ∧
    Q .non (L2.upd H l (.lst (xs.take i.toNat ++ [y] ++ xs.drop i.toNat)))) := by
  intro dp F xs ds vs ws a H Q ys d s rx rd h e q
  match ds, rd, e with
  | [.int i, y], rd, e =>
    obtain ⟨hz, he⟩ := ifs (show (if xs.length < sizeLine ∧ 0 ≤ i ∧ i < 2 ^ 63 then some (xs.take i.toNat ++ [y] ++ xs.drop i.toNat, D.non) else none) = some (ys, d) from e)
    cases he
    obtain ⟨v, w, rfl, r1, r2⟩ := rd.two
    obtain rfl := r1.intV
    exact ⟨a, vs, i, w, rfl, rfl, h, by rw [← rx.length]; exact hz.1, hz.2.1, hz.2.2, q _ _ (((rx.take _).app (.cons r2 .nil)).app (rx.drop _)) .non⟩

/-! ### list.index -/
section
variable {X : Cx} {E : WX} {o e : Expr} {f g : M R} {apos cpos : Pos}
def firstEq (d : PyData) : List PyData → Nat → Option Nat
  | [], _ => none
  | z :: zs, n => if PyData.eqv z d then some n else firstEq d zs (n + 1)
theorem firstEq_ok {d : PyData} : ∀ {ds : List PyData} {n j : Nat}, firstEq d ds n = some j → n ≤ j ∧ (∃ z, ds[j - n]? = some z ∧ PyData.eqv z d = true) ∧ ∀ (m : Nat) (z' : PyData), m < j - n → ds[m]? = some z' → PyData.eqv z' d = false
  | [], n, j, h => by cases h
  | z :: zs, n, j, h => by
    unfold firstEq at h
    cases hz : PyData.eqv z d with
    | true =>
      rw [hz] at h
      cases h
      exact ⟨Nat.le_refl _, ⟨z, by simp, hz⟩, fun m z' hm => by omega⟩
    | false =>
      rw [hz] at h
      obtain ⟨h1, ⟨w, h2, h3⟩, h4⟩ := firstEq_ok (ds := zs) (n := n + 1) h
      have e1 : j - n = (j - (n + 1)) + 1 := by omega
      refine ⟨by omega, ⟨w, by rw [e1]; exact h2, h3⟩, fun m z' hm hz' => ?_⟩
      cases m with
      | zero => simp at hz'; subst hz'; exact hz
      | succ m => exact h4 m z' (by omega) hz'
def indexD (l x : D) : Option R := match l.py, x.py with
  | some (.list ds), some d => if SeqAt.shaped (.list ds) && SeqAt.shaped d then (firstEq d ds 0).map fun n => .val (.int (n : Nat)) else none
  | _, _ => none
def indexM (f g : M R) : M R := mb f fun r1 => match r1.d with
  | .lst ds => mb g fun r2 => mo (indexD (.lst ds) r2.d)
  | _ => fun _ => .bad
theorem de_index (hu : X.A.units + 65 < cLine) (ho : DE X E o f) (ha : DE X E e g) (hbase : attributeBase o "index" X.env (eval o X.env) = eval o X.env := by rfl)
    (hfew : ((backTo cpos (starEach [e] X.env)).all (fun x => !x.1) && (backToKw cpos (keywordEach [] X.env)).all (fun x => x.1.isSome)
      && decide ([e].length + ([] : List Keyword).length + (if ([] : List Keyword).isEmpty then 0 else 1) < 30)) = true := by rfl)
    (hline : (apos.endLine == cpos.line) = true := by rfl) (hs : starEach [e] X.env = (false, eval e X.env) :: starEach [] X.env := by rfl) (hplain : (backTo cpos (starEach [] X.env)).any (·.1) = false := by rfl) :
    DE X E (.Call (.Attribute o "index" apos) [e] [] cpos) (indexM f g) := by
  refine PE.mono' (pe_bm PySem.F.plainAttrs_list PySem.F.slot_list_index PySem.F.type_list_index (mt_indexD hu) ho (pa_cons ha pa_nil hs) hbase hfew hline hs hplain) fun σ H Q ⟨W, F, S, k, p⟩ => ?_
  refine tD_bindE k p fun r1 S1 v1 F1 H1 s1 k1 rr1 p1 => ?_
  cases hd : r1.d with
  | lst ds =>
    rw [hd] at rr1
    simp only [hd] at p1
    obtain ⟨a, vs, rfl, h, rs⟩ := rr1.lstV
    refine ⟨.inl ⟨rfl, vs, .inl (.inl (k1.fh _ _ h))⟩, tD_bindE k1 p1 fun r2 S2 v2 F2 H2 s2 k2 rr2 p2 => ?_⟩
    obtain ⟨res, e2, q2⟩ := mo_some p2
    unfold indexD at e2
    cases e3 : (D.lst ds).py with
    | none => simp only [e3] at e2; cases e2
    | some pl =>
      cases e4 : r2.d.py with
      | none => simp only [e3, e4] at e2; cases pl <;> cases e2
      | some dd =>
        simp only [e3, e4] at e2
        cases pl with
        | list ps =>
          simp only at e2
          by_cases hz : (SeqAt.shaped (.list ps) && SeqAt.shaped dd) = true
          · rw [if_pos hz] at e2
            rw [Bool.and_eq_true] at hz
            obtain ⟨n, e5, rfl⟩ := Option.map_eq_some_iff.mp e2
            obtain ⟨_, ⟨z, h1, h2⟩, h3⟩ := firstEq_ok e5
            exact ⟨a, v2, dd, ps, n, z, rfl, rfl, py_dp k2.fh (rr1.mono s2) e3, py_dp k2.fh rr2 e4, hz.1, hz.2, h1, h2, h3, q2 _ F2 H2 (Same.refl _) k2 (.int _)⟩
          · rw [if_neg hz] at e2; cases e2
        | _ => cases e2
  | _ => simp only [hd] at p1; exact p1.elim
end
end DD

end
section
set_option Elab.async false
set_option Elab.async false
set_option linter.all false
set_option maxRecDepth 100000
set_option maxHeartbeats 4000000
set_option autoImplicit false
namespace DD
open PySem PySem.Spec PyProof.Rows L2

/-! ### texts walked -/
def signsD (z : Str) : List D := z.cps.toList.map fun c => D.str ⟨#[c]⟩
def strI (f : M R) : M (List D) := mb f fun r => match r.d with
  | .str z => mp (signsD z)
  | _ => fun _ => .bad
section
variable {X : Cx} {E : WX} {e e2 tg : Expr} {f : M R} {ga : M (List D)} {p pos tpos : Pos} {elts : List Expr} {kk : Nat}
theorem di_str (he : DE X E e f) : DI X E tg e (strI f) := by
  refine PI.mono' (pi_str he) fun σ H R ⟨W, F, S, k, p⟩ => ?_
  refine tD_bindI k p fun r S1 v F1 H1 s1 k1 rr p1 => ?_
  cases hd : r.d with
  | str z =>
    rw [hd] at rr
    simp only [hd] at p1
    obtain rfl := rr.strV
    refine ⟨z, rfl, p1 _ F1 H1 (Same.refl _) k1 ⟨fun _ => True, fun i H v H' => H' = H ∧ ∃ c, z.cps[i]? = some c ∧ v = .str ⟨#[c]⟩, ?_, fun _ _ => trivial, fun i H x H' hi _ y => .inl ⟨y.1, ?_⟩⟩⟩
    · have w := walk_str (z := z)
      simpa [signsD] using w
    · obtain ⟨c, h1, rfl⟩ := y.2
      refine ⟨.str ⟨#[c]⟩, ?_, .str _⟩
      unfold signsD
      rw [List.getElem?_map, Array.getElem?_toList, h1]
      rfl
  | _ => simp only [hd] at p1; exact p1.elim

/-! ### zip -/
def zipD (a b : List D) : List D := (a.zip b).map fun p => D.tup [p.1, p.2]
def zipI (g : M (List D)) : M (List D) := mb g fun ds => match ds with
  | [.lst a, .lst b] => mp (zipD a b)
  | [.tup a, .tup b] => mp (zipD a b)
  | _ => fun _ => .bad
theorem yields_zip {K : PySem.W.Frag} {W : Wd} {F : Hp} {J : It} {a b : List D} {vs ws : List V} {n : Nat} {G : Hp → Prop} (hn : n = min vs.length ws.length) (ra : Reps K W.dp F a vs) (rb : Reps K W.dp F b ws) (wk : Walk J n G (YPair (fun i => vs[i]?) (fun i => ws[i]?))) (hG : ∀ H, Same F H → G H) : Yields K W F J (zipD a b) := by
  have hl : (zipD a b).length = n := by simp [zipD, hn, ra.length, rb.length]
  refine ⟨G, _, by rw [hl]; exact wk, hG, fun i H x H' hi _ y => ?_⟩
  obtain ⟨T, x1, y1, rfl, hT, rfl, h1, h2⟩ := y
  obtain ⟨d1, e1, r1⟩ := ra.getV h1
  obtain ⟨d2, e2, r2⟩ := rb.getV h2
  refine .inr ⟨T, [x1, y1], [d1, d2], rfl, hT, rfl, ?_, .cons r1 (.cons r2 .nil)⟩
  unfold zipD
  have hz : (a.zip b)[i]? = some (d1, d2) := List.getElem?_zip_eq_some.mpr ⟨e1, e2⟩
  rw [List.getElem?_map, hz]
  rfl
theorem walk_zipT {K : PySem.W.Frag} {a b : Addr} {xs ys : List V} {n : Nat} (hn : n = min xs.length ys.length) : Walk (RZ.ItzT K a b) n (fun H => SqT K H a xs ∧ SqT K H b ys) (YPair (fun i => xs[i]?) (fun i => ys[i]?)) := by
  subst hn
  refine ⟨fun i _ hi q => ?_, fun _ q => ⟨xs, ys, q.1, q.2, by omega⟩, fun i H v H' _ q y => ?_⟩
  · have h1 : i < xs.length := by omega
    have h2 : i < ys.length := by omega
    exact ⟨xs, ys, xs[i], ys[i], q.1, q.2, by simp [h1], by simp [h2]⟩
  · obtain ⟨T, x, y, h1, h2, h3, h4, h5⟩ := y
    exact ⟨T, x, y, h1, h2, h3, h4 xs q.1, h5 ys q.2⟩
theorem di_zip (hg : Gl X "zip") (hm : X.mg "zip" = none) (ha : DA X E [e, e2] ga) (hs : starEach [e, e2] X.env = (false, eval e X.env) :: starEach [e2] X.env := by rfl) (hpl : (backTo pos (starEach [e2] X.env)).any (·.1) = false := by rfl) :
    DI X E (.Tuple elts kk tpos) (.Call (.Name "zip" p) [e, e2] [] pos) (zipI ga) := by
  refine PI.mono' (RZ.pi_zipA hg hm ha hs hpl) fun σ H R ⟨W, F, S, k, p⟩ => ?_
  refine tA_bindI k p fun ds S1 vs F1 H1 s1 k1 rr p1 => ?_
  match ds, rr, p1 with
  | [.lst a, .lst b], rr, p1 =>
    obtain ⟨v, w, rfl, r1, r2⟩ := rr.two
    obtain ⟨a1, vs, rfl, h1, rs1⟩ := r1.lstV
    obtain ⟨a2, ws, rfl, h2, rs2⟩ := r2.lstV
    exact ⟨a1, a2, vs, ws, rfl, .inl ⟨.inl (.inl (k1.fh _ _ h1)), .inl (.inl (k1.fh _ _ h2)), p1 _ F1 H1 (Same.refl _) k1 (yields_zip rfl rs1 rs2 (walk_zip rfl) fun H' s' => ⟨.inl (.inl (s' _ _ h1)), .inl (.inl (s' _ _ h2))⟩)⟩⟩
  | [.tup a, .tup b], rr, p1 =>
    obtain ⟨v, w, rfl, r1, r2⟩ := rr.two
    obtain ⟨a1, vs, rfl, h1, rs1⟩ := r1.tupV
    obtain ⟨a2, ws, rfl, h2, rs2⟩ := r2.tupV
    exact ⟨a1, a2, vs, ws, rfl, .inr ⟨Same.seqT k1.fh h1, Same.seqT k1.fh h2, p1 _ F1 H1 (Same.refl _) k1 (yields_zip rfl rs1 rs2 (walk_zipT rfl) fun H' s' => ⟨Same.seqT s' h1, Same.seqT s' h2⟩)⟩⟩

/-! ### enumerate -/
def enumFromD (a : List D) : List D := (a.zipIdx).map fun p => D.tup [.int (p.2 : Nat), p.1]
def enumI (g : M (List D)) : M (List D) := mb g fun ds => match ds with
  | [.lst a] => mp (enumFromD a)
  | _ => fun _ => .bad
def enumTI (g : M (List D)) : M (List D) := mb g fun ds => match ds with
  | [.tup a] => mp (enumFromD a)
  | _ => fun _ => .bad
theorem yields_enum {K : PySem.W.Frag} {W : Wd} {F : Hp} {J : It} {a : List D} {vs : List V} {G : Hp → Prop} (ra : Reps K W.dp F a vs) (wk : Walk J vs.length G (YPair (fun i => some (.int (i : Nat))) (fun i => vs[i]?))) (hG : ∀ H, Same F H → G H) : Yields K W F J (enumFromD a) := by
  have hl : (enumFromD a).length = vs.length := by simp [enumFromD, ra.length]
  refine ⟨G, _, by rw [hl]; exact wk, hG, fun i H x H' hi _ y => ?_⟩
  obtain ⟨T, x1, y1, rfl, hT, rfl, h1, h2⟩ := y
  obtain ⟨d2, e2, r2⟩ := ra.getV h2
  cases h1
  refine .inr ⟨T, _, [.int (i : Nat), d2], rfl, hT, rfl, ?_, .cons (.int _) (.cons r2 .nil)⟩
  unfold enumFromD
  rw [List.getElem?_map, List.getElem?_zipIdx, e2]
  simp
theorem di_enum (hg : Gl X "enumerate") (hm : X.mg "enumerate" = none) (ha : DA X E [e] ga) (hs : starEach [e] X.env = [(false, eval e X.env)] := by rfl) : DI X E (.Tuple elts kk tpos) (.Call (.Name "enumerate" p) [e] [] pos) (enumI ga) := by
  refine PI.mono' (pi_enum hg hm ha hs) fun σ H R ⟨W, F, S, k, p⟩ => ?_
  refine tA_bindI k p fun ds S1 vs F1 H1 s1 k1 rr p1 => ?_
  match ds, rr, p1 with
  | [.lst a], rr, p1 =>
    obtain ⟨v, rfl, r1⟩ := rr.one
    obtain ⟨a1, vs, rfl, h1, rs1⟩ := r1.lstV
    exact ⟨a1, vs, rfl, .inl (.inl (k1.fh _ _ h1)), p1 _ F1 H1 (Same.refl _) k1 (yields_enum rs1 walk_enum fun H' s' => .inl (.inl (s' _ _ h1)))⟩
/-- the tuple at a, each item with its number -/
def IteT (K : PySem.W.Frag) (a : Addr) : It :=
  ⟨fun i H => ∃ (xs : List V) (x : V), SqT K H a xs ∧ xs[i]? = some x, fun i H v H' => ∃ T x, v = .ref T ∧ H T = none ∧ H' = upd H T (.tup [.int (i : Nat), x]) ∧ ∀ xs, SqT K H a xs → xs[i]? = some x, fun i H => ∃ xs : List V, SqT K H a xs ∧ i = xs.length⟩
theorem walk_enumT {K : PySem.W.Frag} {a : Addr} {xs : List V} : Walk (IteT K a) xs.length (fun H => SqT K H a xs) (YPair (fun i => some (.int (i : Nat))) (fun i => xs[i]?)) := by
  refine ⟨fun i _ hi q => ⟨xs, xs[i], q, by simp [hi]⟩, fun _ q => ⟨xs, q, rfl⟩, fun i H v H' _ q y => ?_⟩
  obtain ⟨T, x, h1, h2, h3, h4⟩ := y
  exact ⟨T, .int (i : Nat), x, h1, h2, h3, rfl, h4 xs q⟩
theorem IsTup.isTuple {h : Heap} {a : Addr} {its : Array Value} (x : IsTup h a its) : h.IsTuple a its := x
theorem turn_enumT {P : Program} {w : World} {K : PySem.W.Frag} (a e it : Addr) :
    Turn P w K (.Tuple elts kk tpos) (IteT K a) [e, it] e (fun i h => (∃ old, IsEnum h e it ((i : Nat) : Int) old) ∧ h.IsTupleIter it a i ∧ e ≠ it ∧ a ≠ it ∧ a ≠ e) where
  mem := by simp
  obj := fun i h st b hb => by
    obtain ⟨⟨old, he⟩, ⟨o, ho, hc, hd⟩, _⟩ := st
    have e' : b = e ∨ b = it := by simpa using hb
    rcases e' with z | z
    · rw [z]; exact ⟨_, he, fun v q => nomatch q⟩
    · rw [z]; exact ⟨o, ho, fun v q => by rw [hd] at q; cases q⟩
  keep := fun i h h' st k => let ⟨⟨old, he⟩, hi, hne⟩ := st; ⟨⟨old, k e (by simp) _ he⟩, hi.at fun o q => k it (by simp) o q, hne⟩
  item := by
    intro X hP hw hK hc i pins s σ H E I hf st hg
    subst hP hw hK
    obtain ⟨⟨old, he⟩, hit, hne, hai, hae⟩ := st
    obtain ⟨xs, x, hq, hx⟩ := hg
    obtain ⟨its, rv, p, hz⟩ := I.tuple hq
    obtain ⟨u, hu, ru⟩ := rv.get hx
    have hel : e < s.heap.objs.size := Heap.lt_size he
    have hil : it < s.heap.objs.size := by obtain ⟨_, q, _⟩ := hit; exact Heap.lt_size q
    have hin : i < its.toArray.size := by
      have := (List.getElem?_eq_some_iff.mp hu).1
      simpa using this
    have hef : e ∉ [it, a] := by simp only [List.mem_cons, List.not_mem_nil, or_false, not_or]; exact ⟨hne, hae.symm⟩
    have Dw := Draws.tuple (prog := X.prog) (w := X.w) (A := X.A.in1) (I.ok.hd hc) it a hai its.toArray
    refine wpAny_pyNext_enum_itemC Dw he ⟨hit, IsTup.isTuple p⟩ hin hne hef fun x' h' tk hPx ho hst' hT hsz hk => ?_
    have exu : x' = u := by
      have : its.toArray[i]? = some u := by simpa using hu
      rw [this] at hPx
      exact (Option.some.inj hPx).symm
    subst exu
    refine ⟨_, rfl, wpAny_letOwnedTupleGo_enum (s := { s with heap := h', toks := tk + 1 }) ho fun h'' he' sb => ?_⟩
    have hT2 : h''.get? s.heap.objs.size = some { cls := .type "tuple", data := .seq #[.int i tk, x'] } := (sb.2 _ (Nat.ne_of_gt hel)).trans hT
    have new : ObjOk X.prog X.w (upd H s.heap.objs.size (.tup [.int (i : Nat), x])) h'' s.heap.objs.size (.tup [.int (i : Nat), x]) :=
      ⟨by show 2 ≤ sizeLine; decide, [.int i tk, x'], .cons ⟨_, rfl⟩ (.cons ru .nil), ⟨_, hT2, rfl, _, rfl⟩⟩
    have I1 : Inv X pins σ (upd H s.heap.objs.size (.tup [.int (i : Nat), x])) { s with heap := h'', toks := tk + 1 } :=
      I.turnedNew (ch := [e, it]) (fun b ob hb q => (sb.2 b (fun z => hb (by simp [z]))).trans (hk b ob (fun z => hb (by simp [z])) (fun z => hb (by simp [z])) q)) hf (Nat.le_refl _) new
    refine ⟨.ref s.heap.objs.size, _, I1, rfl, ⟨_, x, rfl, I.hok.fresh (Nat.le_refl _), rfl, fun ys hy => by rw [I.tuple_inj hy hq]; exact hx⟩, ⟨⟨x', ?_⟩, hst'.1.at fun o q => (sb.2 it (Ne.symm hne)).trans q, hne, hai, hae⟩, fun b hb => ?_⟩
    · have e1 : ((i + 1 : Nat) : Int) = (i : Int) + 1 := by omega
      rw [e1]; exact he'
    · have hb' : b < s.heap.objs.size := by
        have e' : b = e ∨ b = it := by simpa using hb
        rcases e' with z | z
        · rw [z]; exact hel
        · rw [z]; exact hil
      rw [upd_ne (Nat.ne_of_lt hb')]
      exact (hf b hb).1
  done := by
    intro X hP hw hK hc i pins s σ H E I hf st hg
    subst hP hw hK
    obtain ⟨⟨old, he⟩, hit, hne, hai, hae⟩ := st
    obtain ⟨xs, hq, hx⟩ := hg
    obtain ⟨its, rv, p, hz⟩ := I.tuple hq
    obtain ⟨f0, f1, f2, f3, f4, f5⟩ := hf it (by simp)
    have hl := rv.length
    have Dw := Draws.tuple (prog := X.prog) (w := X.w) (A := X.A.in1) (I.ok.hd hc) it a hai its.toArray
    have hi : i = its.toArray.size := by simp; omega
    subst hi
    exact wpAny_pyNext_enum_endD Dw he ⟨hit, IsTup.isTuple p⟩ fun h' eb => ⟨rfl, I.turned (t' := s.toks) (fun b o hb q => eb b o hb q) f0 f1 f3 f4 f5⟩
  self := fun A i s Q E st h => let ⟨⟨_, he⟩, _⟩ := st; wpAny_pyIter_enum he h
set_option maxHeartbeats 4000000 in
theorem meets_enumerate_new1 {v : Value} {o : Obj} {H : Heap → Prop} (B : Begins v o H) :
    Meets (Builtin.«enumerate.__new__» ⟨[.type "enumerate", v], []⟩) (fun _ R s => H s.heap ∧
      R (.ok (.ret (.ref (s.heap.push o).objs.size))) { s with heap := (s.heap.push o).push { cls := .type "enumerate", data := .fields #[.none, .bool false, .ref s.heap.objs.size, rawInt 0, .none, .none] } }) :=
  .of_wp fun prog w A R s h => by
    obtain ⟨hp, g, d, tk, os⟩ := s; obtain ⟨h1, h⟩ := h
    have hsub := sub_enumerate
    have q1 : ∀ {A' : Around} {E : Value → Shared → Prop} {Q : Value → Shared → Prop}, Q (.ref hp.objs.size) ⟨hp.push o, g, d, tk, os⟩ → wpAny (model prog w) A' (pyIter v) Q E ⟨hp, g, d, tk, os⟩ :=
      fun q => B.iter prog w _ _ ⟨hp, g, d, tk, os⟩ _ h1 q
    wp_walk using q1
    refine wpAny_stack_any fun st => wpAny_pure ?_
    split
    · rename_i c _ _ _ _ _
      cases (c == Value.type "enumerate")
      · wp_walk using q1
        exact ⟨_, rfl, h⟩
      · wp_walk using q1
        exact ⟨_, rfl, h⟩
    · wp_walk using q1
      exact ⟨_, rfl, h⟩
theorem enum_begins1 {prog : Program} {w : World} {A : Around} {E : Value → Shared → Prop} {s : Shared} {v : Value} {o : Obj} {H : Heap → Prop} {Q : Value → Shared → Prop} (B : Begins v o H) (h1 : H s.heap)
    (h : ∀ h', IsEnum h' (s.heap.objs.size + 1) s.heap.objs.size 0 .none → h'.get? s.heap.objs.size = some o → h'.objs.size = s.heap.objs.size + 2 →
      (∀ b o, s.heap.get? b = some o → h'.get? b = some o) → Q (.ref (s.heap.objs.size + 1)) { s with heap := h' }) :
    wpAny (model prog w) A (call (.type "enumerate") [v]) Q E s := by
  refine callType_new F.called_enumerate (by decide) (F.typeCall_enumerate_1 _) (F.newCall_enumerate_1 _) (fun obj => F.args_object_init_2 obj _) F.entry_enumerate_new
    (meets_enumerate_new1 B) ⟨h1, ?_⟩
  have hz : (s.heap.push o).objs.size = s.heap.objs.size + 1 := Heap.size_push ..
  show _ ∧ _
  rw [hz]
  have he : IsEnum ((s.heap.push o).push { cls := .type "enumerate", data := .fields #[.none, .bool false, .ref s.heap.objs.size, rawInt 0, .none, .none] }) (s.heap.objs.size + 1) s.heap.objs.size 0 .none := by
    have := Heap.get?_push_size (s.heap.push o) (o := { cls := .type "enumerate", data := .fields #[.none, .bool false, .ref s.heap.objs.size, rawInt 0, .none, .none] }) rfl
    rw [hz] at this; exact this
  refine ⟨⟨_, he, rfl⟩, h _ he (Heap.get?_push_of_some _ (Heap.get?_push_size _ B.free)) (by rw [Heap.size_push, hz]) fun b o x => Heap.get?_push_of_some _ (Heap.get?_push_of_some _ x)⟩
def iEnumT (K : PySem.W.Frag) (ta : TA) : TI := fun σ H R => ta σ H fun vs H1 => ∃ a xs, vs = [.ref a] ∧ SqT K H1 a xs ∧ R (IteT K a) H1
theorem pi_enumT {ta : TA} (hg : Gl X "enumerate") (hm : X.mg "enumerate" = none) (ha : PA X [e] ta) (hs : starEach [e] X.env = [(false, eval e X.env)] := by rfl) :
    PI X (.Tuple elts kk tpos) (.Call (.Name "enumerate" p) [e] [] pos) (iEnumT X.K ta) := by
  refine ⟨fun pins s σ H R I h => ?_⟩
  refine Call_ (ld_blt I hg hm boot_enumerate (PyProof.Rows.callWith_type1 (thn (ha.run pos pins s σ H _ I h) fun us s1 ⟨vs, H1, I1, r1, q1⟩ => ?_) hs rfl))
  obtain ⟨a, xs, ex, hq, q⟩ := q1
  subst ex
  cases r1 with
  | cons r rr =>
    cases rr
    cases r
    obtain ⟨its, rv, p', hz⟩ := I1.tuple hq
    obtain ⟨ob, hob, _⟩ := id p'
    have hlt := Heap.lt_size hob
    refine enum_begins1 (begins_tuple a its.toArray) (IsTup.isTuple p') fun h' he hit hsz hk => wpAny_pyIter_enum he ?_
    have I2 : Inv X pins σ H1 { s1 with heap := h' } := I1.kept (t' := s1.toks) hk
    refine ⟨s1.heap.objs.size + 1, [s1.heap.objs.size + 1, s1.heap.objs.size], _, _, H1, rfl, I2, turn_enumT a (s1.heap.objs.size + 1) s1.heap.objs.size, ⟨⟨.none, he⟩, ⟨_, hit, rfl, rfl⟩, Nat.succ_ne_self _, Nat.ne_of_lt hlt, Nat.ne_of_lt (Nat.lt_succ_of_lt hlt)⟩, fun b hb => ?_, q⟩
    have e' : b = s1.heap.objs.size + 1 ∨ b = s1.heap.objs.size := by simpa using hb
    have hle : s1.heap.objs.size ≤ b := by
      rcases e' with z | z
      · rw [z]; exact Nat.le_add_right _ _
      · rw [z]; exact Nat.le_refl _
    exact I1.fpOk hle (I1.hok.fresh hle)
theorem di_enumT (hg : Gl X "enumerate") (hm : X.mg "enumerate" = none) (ha : DA X E [e] ga) (hs : starEach [e] X.env = [(false, eval e X.env)] := by rfl) : DI X E (.Tuple elts kk tpos) (.Call (.Name "enumerate" p) [e] [] pos) (enumTI ga) := by
  refine PI.mono' (pi_enumT hg hm ha hs) fun σ H R ⟨W, F, S, k, p⟩ => ?_
  refine tA_bindI k p fun ds S1 vs F1 H1 s1 k1 rr p1 => ?_
  match ds, rr, p1 with
  | [.tup a], rr, p1 =>
    obtain ⟨v, rfl, r1⟩ := rr.one
    obtain ⟨a1, vs, rfl, h1, rs1⟩ := r1.tupV
    exact ⟨a1, vs, rfl, Same.seqT k1.fh h1, p1 _ F1 H1 (Same.refl _) k1 (yields_enum rs1 walk_enumT fun H' s' => Same.seqT s' h1)⟩
end
end DD

end
section
set_option Elab.async false
set_option Elab.async false
set_option linter.all false
set_option maxRecDepth 100000
set_option maxHeartbeats 2000000
set_option autoImplicit false
/-! list(zip(a, b)) of two tuples of one length -/
namespace PySem.W
open PySem
open PySem.Sem (wp)
section
variable {prog : Program} {w : World} {A : Around} {E : Value → Shared → Prop} {s : Shared}
abbrev IsZ (h : Heap) (z TI TO : Addr) (f0 : Value) (b : Bool) : Prop :=
  h.get? z = some { cls := .type "zip", dict := none, data := .fields #[f0, .bool b, .bool false, .ref TI, .ref TO], slots := #[] }
theorem wpAny_loadAlive {a : Addr} {o : Obj} {Q : Option Obj → Shared → Prop} (ho : s.heap.get? a = some o) (h : Q (some o) s) : wpAny (model prog w) A (loadIfAlive a) Q E s :=
  fun Γ p _ => by
    show wp _ Γ (.loadIfAlive a .pure) _ _ p s
    rw [Sem.wp_loadIfAlive, ho]
    exact h
theorem zn_free {z TI TO T : Addr} {b : Bool} {o : Obj} {Q : Bool → Shared → Prop} (hz : IsZ s.heap z TI TO (rawInt T) b) (hT : s.heap.get? T = some o)
    (hQ : ∀ h', IsZ h' z TI TO (rawInt T) true → Heap.SameBut z s.heap h' → Q false { s with heap := h' }) : wpAny (model prog w) A (Builtin.SmallTypes.ownedTupleIsFree (.ref z)) Q E s := by
  unfold Builtin.SmallTypes.ownedTupleIsFree
  refine wpAny_bind (wpAny_field hz rfl (x := rawInt T) rfl ?_)
  simp only [rawInt]
  have e : (Int.toNat ((T : Nat) : Int)) = T := Int.toNat_natCast T
  show wpAny _ _ (loadIfAlive (Int.toNat ((T : Nat) : Int)) >>= _) _ _ _
  rw [e]
  refine wpAny_bind (wpAny_loadAlive hT ?_)
  simp only [Option.isNone_some, Bool.false_eq_true, if_false]
  refine wpAny_bind (wpAny_field hz rfl (x := .bool b) rfl ?_)
  cases b with
  | true =>
    refine wpAny_ite_split (fun hab => absurd hab (by decide)) (fun _ => ?_)
    exact wpAny_pure (hQ s.heap hz ⟨rfl, fun _ _ => rfl⟩)
  | false =>
    refine wpAny_ite_split (fun _ => ?_) (fun hab => absurd (by decide) hab)
    refine wpAny_bind (wpAny_setField_rec hz (by simp) fun h₁ hz₁ hs₁ => ?_)
    exact wpAny_pure (hQ h₁ hz₁ hs₁)

theorem zn_next_item {z TI TO i1 i2 l1 l2 T : Addr} {b : Bool} {o : Obj} {k1 k2 : Nat} {xs ys : Array Value} {x y : Value} {Q : Value → Shared → Prop} (D : ZipApart z TI TO i1 i2 l1 l2)
    (hz : IsZ s.heap z TI TO (rawInt T) b) (hT : s.heap.get? T = some o) (hTI : IsPair s.heap TI (.ref i1) (.ref i2))
    (h1 : s.heap.IsTupleIter i1 l1 k1) (h2 : s.heap.IsTupleIter i2 l2 k2) (hl1 : s.heap.IsTuple l1 xs) (hl2 : s.heap.IsTuple l2 ys) (hx : xs[k1]? = some x) (hy : ys[k2]? = some y)
    (hQ : ∀ h', IsZ h' z TI TO (rawInt T) true → h'.IsTupleIter i1 l1 (k1 + 1) → h'.IsTupleIter i2 l2 (k2 + 1) → IsPair h' s.heap.objs.size x y → h'.objs.size = s.heap.objs.size + 1 →
      (∀ c o, c ≠ z → c ≠ i1 → c ≠ i2 → s.heap.get? c = some o → h'.get? c = some o) → Q (.ref s.heap.objs.size) { s with heap := h' }) :
    wpAny (model prog w) A (Builtin.«zip.__next__» ⟨[.ref z], []⟩) (fun fin s' => ∃ v, fin = .done (.ret v) ∧ Q v s') E s := by
  show wpAny _ _ (field (.ref z) 2 >>= _) _ _ _
  refine wpAny_bind (wpAny_field hz rfl (x := .bool false) rfl ?_)
  show wpAny _ _ (field (.ref z) 3 >>= _) _ _ _
  refine wpAny_bind (wpAny_field hz rfl (x := .ref TI) rfl ?_)
  refine wpAny_bind (wpAny_seqItems hTI rfl ?_)
  show wpAny _ _ (Builtin.SmallTypes.ownedTupleIsFree (.ref z) >>= _) _ _ _
  refine wpAny_bind (zn_free hz hT fun h₁ hz₁ hs₁ => ?_)
  simp only [Bool.false_eq_true, if_false]
  refine wpAny_bind ?_
  simp only [← Array.forIn_toList, List.forIn_cons, List.forIn_nil]
  refine wpAny_bind (wpAny_bind (wpAny_holding ?_))
  show wpAny _ _ (Builtin.SmallTypes.nextOf (.ref i1) >>= _) _ _ _
  refine wpAny_bind (RZ.nextOf_tuple_item (h1.extBut hs₁.extBut D.i1z) (hl1.extBut hs₁.extBut D.l1z) hx fun h₂ h1₂ hs₂ => wpAny_pure (wpAny_pure ?_))
  refine wpAny_bind (wpAny_bind (wpAny_holding ?_))
  show wpAny _ _ (Builtin.SmallTypes.nextOf (.ref i2) >>= _) _ _ _
  refine wpAny_bind (RZ.nextOf_tuple_item (((h2.extBut hs₁.extBut D.i2z).extBut hs₂.extBut D.i12.symm))
    (((hl2.extBut hs₁.extBut D.l2z).extBut hs₂.extBut D.l2i1)) hy fun h₄ h2₄ hs₄ => wpAny_pure (wpAny_pure (wpAny_pure ?_)))
  have hsz : h₄.objs.size = s.heap.objs.size := by rw [hs₄.1, hs₂.1, hs₁.1]
  refine wpAny_bind (wpAny_newTuple (hsz := by show 2 ≤ sizeLine; decide) ?_)
  have hz4 : IsZ h₄ z TI TO (rawInt T) true := hs₄.extBut _ _ D.i2z.symm (hs₂.extBut _ _ D.i1z.symm hz₁)
  refine wpAny_pure ⟨_, rfl, ?_⟩
  show Q (.ref h₄.objs.size) _
  rw [hsz]
  refine hQ _ (Heap.get?_push_of_some _ hz4) ((h1₂.extBut hs₄.extBut D.i12).at fun o e => Heap.get?_push_of_some _ e) (h2₄.at fun o e => Heap.get?_push_of_some _ e) ?_ (by rw [Heap.size_push, hsz]) fun c o c1 c2 c3 e => Heap.get?_push_of_some _ (hs₄.extBut _ _ c3 (hs₂.extBut _ _ c2 (hs₁.extBut _ _ c1 e)))
  rw [← hsz]
  exact Heap.get?_push_size _ rfl
theorem zn_next_end {z TI TO i1 i2 l1 l2 T : Addr} {b : Bool} {o : Obj} {k1 : Nat} {xs : Array Value} {Q : Fin → Shared → Prop} (hh : A.handled = none) (D : ZipApart z TI TO i1 i2 l1 l2)
    (hz : IsZ s.heap z TI TO (rawInt T) b) (hT : s.heap.get? T = some o) (hTI : IsPair s.heap TI (.ref i1) (.ref i2))
    (h1 : s.heap.IsTupleIter i1 l1 k1) (hl1 : s.heap.IsTuple l1 xs) (hx : xs[k1]? = none)
    (hE : ∀ h' e, (∀ c o, c ≠ z → c ≠ i1 → s.heap.get? c = some o → h'.get? c = some o) → (∃ o, h'.get? e = some o ∧ o.cls = .type "StopIteration") → E (.ref e) { s with heap := h' }) :
    wpAny (model prog w) A (Builtin.«zip.__next__» ⟨[.ref z], []⟩) Q E s := by
  show wpAny _ _ (field (.ref z) 2 >>= _) _ _ _
  refine wpAny_bind (wpAny_field hz rfl (x := .bool false) rfl ?_)
  show wpAny _ _ (field (.ref z) 3 >>= _) _ _ _
  refine wpAny_bind (wpAny_field hz rfl (x := .ref TI) rfl ?_)
  refine wpAny_bind (wpAny_seqItems hTI rfl ?_)
  show wpAny _ _ (Builtin.SmallTypes.ownedTupleIsFree (.ref z) >>= _) _ _ _
  refine wpAny_bind (zn_free hz hT fun h₁ hz₁ hs₁ => ?_)
  simp only [Bool.false_eq_true, if_false]
  refine wpAny_bind ?_
  simp only [← Array.forIn_toList, List.forIn_cons, List.forIn_nil]
  refine wpAny_bind (wpAny_bind (wpAny_holding ?_))
  show wpAny _ _ (Builtin.SmallTypes.nextOf (.ref i1) >>= _) _ _ _
  exact wpAny_bind (RZ.nextOf_tuple_end hh (h1.extBut hs₁.extBut D.i1z) (hl1.extBut hs₁.extBut D.l1z) hx fun h₂ e hs₂ he => hE h₂ e (fun c o c1 c3 x => hs₂ _ _ c3 (hs₁.extBut _ _ c1 x)) he)

/-- before draw i; what was drawn first is alive -/
structure ZSt (z TI TO i1 i2 l1 l2 S : Addr) (xs ys : Array Value) (t0 i : Nat) (h : Heap) : Prop where
  z : (i = 0 ∧ IsZ h z TI TO .none false) ∨ ∃ b o, IsZ h z TI TO (rawInt t0) b ∧ h.get? t0 = some o
  ti : IsPair h TI (.ref i1) (.ref i2)
  to : ∃ a b, IsPair h TO a b
  h1 : h.IsTupleIter i1 l1 i
  h2 : h.IsTupleIter i2 l2 i
  l1 : h.IsTuple l1 xs
  l2 : h.IsTuple l2 ys
  sz : h.objs.size = t0 + i
  pr : ∀ j x y, j < i → xs[j]? = some x → ys[j]? = some y → IsPair h (t0 + j) x y
theorem farA {c t : Nat} (j : Nat) (h : c < t) : t + j ≠ c := by omega
theorem far0 {c t : Nat} (h : c < t) : t ≠ c := by omega
theorem zn_pyNext_item {z TI TO i1 i2 l1 l2 S : Addr} {xs ys : Array Value} {t0 i : Nat} {x y : Value} {Q : Option Value → Shared → Prop} (D : ZipApart z TI TO i1 i2 l1 l2) (st : ZSt z TI TO i1 i2 l1 l2 S xs ys t0 i s.heap)
    (lt : ∀ c ∈ [z, TI, TO, i1, i2, l1, l2, S], c < t0) (hx : xs[i]? = some x) (hy : ys[i]? = some y)
    (hQ : ∀ h', ZSt z TI TO i1 i2 l1 l2 S xs ys t0 (i + 1) h' → (∀ c o, c ∉ [z, TO, i1, i2] → s.heap.get? c = some o → h'.get? c = some o) → Q (some (.ref (t0 + i))) { s with heap := h' }) :
    wpAny (model prog w) A (pyNext (.ref z)) Q E s := by
  have lz : z < t0 := lt z (by simp)
  have lTI : TI < t0 := lt TI (by simp)
  have lTO : TO < t0 := lt TO (by simp)
  have li1 : i1 < t0 := lt i1 (by simp)
  have li2 : i2 < t0 := lt i2 (by simp)
  have prev : ∀ h', IsPair h' (t0 + i) x y → (∀ c o, c ∉ [z, TO, i1, i2] → s.heap.get? c = some o → h'.get? c = some o) → ∀ j x y, j < i + 1 → xs[j]? = some x → ys[j]? = some y → IsPair h' (t0 + j) x y := fun h' hp hk j x' y' hj ex ey => by
    rcases Nat.lt_succ_iff_lt_or_eq.mp hj with q | q
    · refine hk _ _ (by simp only [List.mem_cons, List.not_mem_nil, or_false, not_or]; exact ⟨farA j lz, farA j lTO, farA j li1, farA j li2⟩) (st.pr j x' y' q ex ey)
    · subst q
      rw [hx] at ex
      rw [hy] at ey
      cases ex
      cases ey
      exact hp
  rcases st.z with ⟨rfl, hz⟩ | ⟨b, o, hz, hT⟩
  · obtain ⟨a, b, hTO⟩ := st.to
    refine RZ.pyNext_zipT_item D hz st.ti hTO st.h1 st.h2 st.l1 st.l2 hx hy fun h' z' TO' h1' h2' hT hsz hk => ?_
    have e0 : s.heap.objs.size = t0 := by rw [st.sz, Nat.add_zero]
    rw [e0] at z' hT hsz ⊢
    have hk' : ∀ c o, c ∉ [z, TO, i1, i2] → s.heap.get? c = some o → h'.get? c = some o := fun c o hc e => by
      simp only [List.mem_cons, List.not_mem_nil, or_false, not_or] at hc
      exact hk c o hc.1 hc.2.1 hc.2.2.1 hc.2.2.2 e
    exact hQ h' ⟨.inr ⟨false, _, z', hT⟩, hk _ _ D.TIz D.TITO D.TIi1 D.TIi2 st.ti, ⟨_, _, TO'⟩, h1', h2', st.l1.at fun o e => hk _ o D.l1z D.l1TO D.l1i1 D.l1i2 e, st.l2.at fun o e => hk _ o D.l2z D.l2TO D.l2i1 D.l2i2 e, hsz, prev h' hT hk'⟩ hk'
  · have hTy : s.TypeIs (.ref z) "zip" := ⟨_, hz, rfl⟩
    unfold pyNext
    refine wpAny_bind (wpAny_attempt (wpAny_callSpecial?_slot (name := Str.ofString "__next__") hTy F.slot_zip_next
      (wpAny_call_entry F.slot_zip_next hTy F.entry_zip_next
        (zn_next_item D hz hT st.ti st.h1 st.h2 st.l1 st.l2 hx hy fun h' z' h1' h2' hp hsz hk => wpAny_pure ?_) (F.args_zip_next_1 _))))
    rw [st.sz] at hp hsz ⊢
    have hk' : ∀ c o, c ∉ [z, TO, i1, i2] → s.heap.get? c = some o → h'.get? c = some o := fun c o hc e => by
      simp only [List.mem_cons, List.not_mem_nil, or_false, not_or] at hc
      exact hk c o hc.1 hc.2.2.1 hc.2.2.2 e
    obtain ⟨a, b', hTO⟩ := st.to
    exact hQ h' ⟨.inr ⟨true, o, z', hk t0 o (far0 lz) (far0 li1) (far0 li2) hT⟩, hk _ _ D.TIz D.TIi1 D.TIi2 st.ti, ⟨a, b', hk _ _ D.TOz D.TOi1 D.TOi2 hTO⟩, h1', h2', st.l1.at fun o e => hk _ o D.l1z D.l1i1 D.l1i2 e, st.l2.at fun o e => hk _ o D.l2z D.l2i1 D.l2i2 e, hsz, prev h' hp hk'⟩ hk'
theorem zn_pyNext_end {z TI TO i1 i2 l1 l2 S : Addr} {xs ys : Array Value} {t0 i : Nat} {Q : Option Value → Shared → Prop} (hh : A.handled = none) (D : ZipApart z TI TO i1 i2 l1 l2) (st : ZSt z TI TO i1 i2 l1 l2 S xs ys t0 i s.heap)
    (hx : xs[i]? = none)
    (hQ : ∀ h', (∀ c o, c ∉ [z, TO, i1, i2] → s.heap.get? c = some o → h'.get? c = some o) → Q none { s with heap := h' }) :
    wpAny (model prog w) A (pyNext (.ref z)) Q E s := by
  rcases st.z with ⟨rfl, hz⟩ | ⟨b, o, hz, hT⟩
  · obtain ⟨a, b, hTO⟩ := st.to
    refine RZ.pyNext_zipT_end hh D hz st.ti hTO st.h1 st.h2 st.l1 st.l2 (.inl hx) fun h' hk => hQ h' fun c o hc e => ?_
    simp only [List.mem_cons, List.not_mem_nil, or_false, not_or] at hc
    exact hk c o hc.1 hc.2.1 hc.2.2.1 hc.2.2.2 e
  · have hTy : s.TypeIs (.ref z) "zip" := ⟨_, hz, rfl⟩
    unfold pyNext
    refine wpAny_bind (wpAny_attempt (wpAny_callSpecial?_slot (name := Str.ofString "__next__") hTy F.slot_zip_next
      (wpAny_call_entry F.slot_zip_next hTy F.entry_zip_next (zn_next_end hh D hz hT st.ti st.h1 st.l1 hx fun h' e hk he => ?_) (F.args_zip_next_1 _))))
    obtain ⟨o, ho, hc⟩ := he
    refine wpAny_bind (wpAny_isInstance (T := "StopIteration") (b := true) ⟨o, ho, hc⟩ isSubtype_stop ?_)
    refine wpAny_pure (hQ _ fun c o hc e => ?_)
    simp only [List.mem_cons, List.not_mem_nil, or_false, not_or] at hc
    exact hk c o hc.1 hc.2.2.1 e
theorem zip_no_len : typeLookup (.type "zip") "__len__" = pure none := by rw [typeLookup_type, builtinLookup_eq_fast]; kernel_rfl
theorem zip_no_hint : typeLookup (.type "zip") "__length_hint__" = pure none := by rw [typeLookup_type, builtinLookup_eq_fast]; kernel_rfl
theorem ZSt.frame {z TI TO i1 i2 l1 l2 S : Addr} {xs ys : Array Value} {t0 i : Nat} {h h' : Heap} (st : ZSt z TI TO i1 i2 l1 l2 S xs ys t0 i h) (lt : ∀ c ∈ [z, TI, TO, i1, i2, l1, l2], c ≠ S) (lS : S < t0) (sb : Heap.SameBut S h h') : ZSt z TI TO i1 i2 l1 l2 S xs ys t0 i h' where
  z := by
    have hz := lt z (by simp)
    rcases st.z with ⟨e, q⟩ | ⟨b, o, q, hT⟩
    · exact .inl ⟨e, (sb.2 _ hz).trans q⟩
    · exact .inr ⟨b, o, (sb.2 _ hz).trans q, (sb.2 _ (Nat.ne_of_gt lS)).trans hT⟩
  ti := (sb.2 _ (lt TI (by simp))).trans st.ti
  to := let ⟨a, b, q⟩ := st.to; ⟨a, b, (sb.2 _ (lt TO (by simp))).trans q⟩
  h1 := st.h1.at fun o e => (sb.2 _ (lt i1 (by simp))).trans e
  h2 := st.h2.at fun o e => (sb.2 _ (lt i2 (by simp))).trans e
  l1 := st.l1.at fun o e => (sb.2 _ (lt l1 (by simp))).trans e
  l2 := st.l2.at fun o e => (sb.2 _ (lt l2 (by simp))).trans e
  sz := sb.1.trans st.sz
  pr := fun j x y hj ex ey => (sb.2 _ (farA j lS)).trans (st.pr j x y hj ex ey)
end
section
variable {prog : Program} {w : World} {A : Around} {R : Result → Shared → Prop}
theorem zl_loop {z TI TO i1 i2 l1 l2 S : Addr} {xs ys : Array Value} {t0 : Nat} (hh : A.in1.handled = none) (D : ZipApart z TI TO i1 i2 l1 l2) (lt : ∀ c ∈ [z, TI, TO, i1, i2, l1, l2, S], c < t0) (hS : ∀ c ∈ [z, TI, TO, i1, i2, l1, l2], c ≠ S)
    (he : xs.size = ys.size) (hn : xs.size ≤ sizeLine) (res : Value) :
    ∀ (k i : Nat) (s : Shared) (acc : Array Value) (c : Nat), xs.size - i = k → i ≤ xs.size → ZSt z TI TO i1 i2 l1 l2 S xs ys t0 i s.heap → s.heap.get? S = some { cls := .type "list", dict := none, data := .seq acc c, slots := #[] } →
    acc.toList = (List.range i).map (fun j => Value.ref (t0 + j)) →
    (∀ h' c', (∀ b o, b ∉ [S, z, TO, i1, i2] → s.heap.get? b = some o → h'.get? b = some o) → h'.get? S = some { cls := .type "list", dict := none, data := .seq ((List.range xs.size).map (fun j => Value.ref (t0 + j))).toArray c', slots := #[] } →
      (∀ j x y, j < xs.size → xs[j]? = some x → ys[j]? = some y → IsPair h' (t0 + j) x y) → R (.ok (.ret res)) { s with heap := h' }) →
    codeAny (model prog w) A (.builtin "list.extend.loop" ⟨[.ref S, .ref z, res], []⟩) R s := by
  have lS : S < t0 := lt S (by simp)
  have out : ∀ {h h' : Heap}, (∀ c o, c ∉ [z, TO, i1, i2] → h.get? c = some o → h'.get? c = some o) → ∀ b o, b ∉ [S, z, TO, i1, i2] → h.get? b = some o → h'.get? b = some o := fun hk b o hb e => by
    refine hk b o (fun q => hb ?_) e
    exact List.mem_cons_of_mem _ q
  have nS : S ∉ [z, TO, i1, i2] := fun q => by
    simp only [List.mem_cons, List.not_mem_nil, or_false] at q
    rcases q with q | q | q | q
    · exact hS z (by simp) q.symm
    · exact hS TO (by simp) q.symm
    · exact hS i1 (by simp) q.symm
    · exact hS i2 (by simp) q.symm
  intro k
  induction k with
  | zero =>
    intro i s acc c hk hi st hSh hacc hR
    have hin : i = xs.size := by omega
    subst hin
    refine codeAny_builtin F.entry_extend_loop ?_
    rw [Around.under_plainId F.plain_extend_loop _]
    show wpAny _ A.in1 (pyNext (.ref z) >>= _) _ _ s
    refine wpAny_bind (zn_pyNext_end hh D st (by simp) fun h' hk' => ?_)
    have ea : acc = ((List.range xs.size).map (fun j => Value.ref (t0 + j))).toArray := by rw [← hacc]
    refine wpAny_pure (hR h' c (out hk') (by rw [← ea]; exact hk' S _ nS hSh) fun j x y hj ex ey => hk' _ _ (fun q => ?_) (st.pr j x y hj ex ey))
    have l1 := lt z (by simp)
    have l2 := lt TO (by simp)
    have l3 := lt i1 (by simp)
    have l4 := lt i2 (by simp)
    simp only [List.mem_cons, List.not_mem_nil, or_false] at q
    rcases q with q | q | q | q
    · exact farA j l1 q
    · exact farA j l2 q
    · exact farA j l3 q
    · exact farA j l4 q
  | succ k ih =>
    intro i s acc c hk hi st hSh hacc hR
    have hlt : i < xs.size := by omega
    have hlt2 : i < ys.size := by omega
    have hsz : acc.size = i := by rw [← Array.length_toList, hacc]; simp
    refine codeAny_builtin F.entry_extend_loop ?_
    rw [Around.under_plainId F.plain_extend_loop _]
    show wpAny _ A.in1 (pyNext (.ref z) >>= _) _ _ s
    refine wpAny_bind (zn_pyNext_item D st lt (x := xs[i]) (y := ys[i]) (by simp [hlt]) (by simp [hlt2]) fun h' st' hk' => ?_)
    have hS' := hk' S _ nS hSh
    show wpAny _ A.in1 (updateSeq S (·.push (.ref (t0 + i))) >>= _) _ _ _
    refine wpAny_bind ?_
    refine wpAny_updateSeq (s := { s with heap := h' }) hS' rfl (wpAny_pure ⟨plainId_quiet F.plain_extend_loop _, ih (i + 1) _ (acc.push (.ref (t0 + i))) _ (by omega) hlt (st'.frame hS lS (Heap.SameBut.update ..)) (Heap.get?_update_self _ hS' rfl) ?_ fun h'' c' hk'' hS'' hp => ?_⟩)
      (by rw [hsz]; omega) (by show (acc.push (.ref (t0 + i))).size ≤ sizeLine + 1; rw [Array.size_push, hsz]; omega)
    · rw [Array.toList_push, hacc, List.range_succ, List.map_append]; rfl
    · refine hR h'' c' (fun b o hb e => hk'' b o hb ?_) hS'' hp
      exact (Heap.get?_update_other _ _ (fun h : S = b => hb (by rw [← h]; exact List.mem_cons_self))).trans (out hk' b o hb e)

theorem zl_extend {A : Around} {s : Shared} {R : Result → Shared → Prop} {z TI TO i1 i2 l1 l2 S : Addr} {xs ys : Array Value} {t0 : Nat} (hh : A.in1.handled = none) (D : ZipApart z TI TO i1 i2 l1 l2) (lt : ∀ c ∈ [z, TI, TO, i1, i2, l1, l2, S], c < t0) (hS : ∀ c ∈ [z, TI, TO, i1, i2, l1, l2], c ≠ S)
    (he : xs.size = ys.size) (hn : xs.size ≤ sizeLine) (res : Value) (c₀ : Nat) (st : ZSt z TI TO i1 i2 l1 l2 S xs ys t0 0 s.heap) (hSh : s.heap.get? S = some { cls := .type "list", data := .seq #[] c₀ })
    (hR : ∀ h' c', (∀ b o, b ∉ [S, z, TO, i1, i2] → s.heap.get? b = some o → h'.get? b = some o) → h'.get? S = some { cls := .type "list", dict := none, data := .seq ((List.range xs.size).map (fun j => Value.ref (t0 + j))).toArray c', slots := #[] } →
      (∀ j x y, j < xs.size → xs[j]? = some x → ys[j]? = some y → IsPair h' (t0 + j) x y) → R (.ok (.ret res)) { s with heap := h' }) :
    wpAny (model prog w) A.in1 (Builtin.List.listExtendWith (.ref S) (.ref z) res)
      (fun fin s' => match fin with | .done f => R (.ok f) s' | .again c' => c'.quiet = true ∧ codeAny (model prog w) A c' R s') (fun e s' => R (.error e) s') s := by
  have lS : S < t0 := lt S (by simp)
  have hzS : z ≠ S := hS z (by simp)
  have hz : ∃ f0, IsZip s.heap z TI TO f0 := by
    rcases st.z with ⟨_, q⟩ | ⟨b, o, q, hT⟩
    · exact ⟨_, q⟩
    · have := Heap.lt_size hT
      rw [st.sz] at this
      exact absurd this (by simp)
  obtain ⟨f0, hz⟩ := hz
  have hTy : ∀ h : Heap, IsZip h z TI TO f0 → Shared.TypeIs { s with heap := h } (.ref z) "zip" := fun h q => ⟨_, q, rfl⟩
  unfold Builtin.List.listExtendWith
  refine wpAny_bind (wpAny_typeOf (hTy s.heap hz) ?_)
  have h1 : Builtin.List.listSameRef (.ref S) (.ref z) = false := by simp [Builtin.List.listSameRef, Ne.symm hzS]
  have h2 : (Value.type "zip" == Value.type "list") = false := by decide
  have h3 : (Value.type "zip" == Value.type "tuple") = false := by decide
  simp only [h1, h2, h3, Bool.or_false, Bool.false_eq_true, if_false]
  refine wpAny_bind (wpAny_pyIter_zip hz ?_)
  refine wpAny_bind (wpAny_holding ?_)
  unfold Builtin.List.listLengthHint
  refine wpAny_bind (wpAny_specialOf (hTy s.heap hz) zip_no_len ?_)
  show wpAny _ A.in1 (specialOf (Value.ref z) (Str.ofString "__length_hint__") >>= _) _ _ _
  refine wpAny_bind (wpAny_specialOf (hTy s.heap hz) zip_no_hint ?_)
  refine wpAny_pure ?_
  show wpAny _ A.in1 (rule "list.extend.makes-room" >>= fun _ => Builtin.List.listTouch (.ref S) >>= fun _ =>
    again (.builtin "list.extend.loop" ⟨[.ref S, .ref z, res], []⟩)) _ _ _
  refine wpAny_bind (wpAny_rule ?_)
  refine wpAny_bind ?_
  show wpAny _ A.in1 (updateSeq S (·.push .none) >>= fun _ => updateSeq S (·.pop)) _ _ _
  refine wpAny_bind (wpAny_updateSeq hSh rfl ?_)
  have hS₂ := Heap.get?_update_self (Obj.mapSeq (·.push Value.none)) hSh rfl
  refine wpAny_updateSeq (hz := by seq_fits) hS₂ rfl ?_
  have hS₃ := Heap.get?_update_self (Obj.mapSeq (·.pop)) hS₂ rfl
  refine wpAny_pure ⟨plainId_quiet F.plain_extend_loop _, zl_loop hh D lt hS he hn res xs.size 0 _ #[] _ (Nat.sub_zero _) (Nat.zero_le _) ((st.frame hS lS (Heap.SameBut.update ..)).frame hS lS (Heap.SameBut.update ..)) hS₃ rfl fun h' c' hk hS' hp => ?_⟩
  refine hR h' c' (fun b o hb e => hk b o hb ?_) hS' hp
  have hbS : S ≠ b := fun h : S = b => hb (by rw [← h]; exact List.mem_cons_self)
  exact (Heap.get?_update_other _ _ hbS).trans ((Heap.get?_update_other _ _ hbS).trans e)
theorem zl_init {A : Around} {s : Shared} {R : Result → Shared → Prop} {z TI TO i1 i2 l1 l2 S : Addr} {xs ys : Array Value} {t0 : Nat} (hh : A.in1.handled = none) (D : ZipApart z TI TO i1 i2 l1 l2) (lt : ∀ c ∈ [z, TI, TO, i1, i2, l1, l2, S], c < t0) (hS : ∀ c ∈ [z, TI, TO, i1, i2, l1, l2], c ≠ S)
    (he : xs.size = ys.size) (hn : xs.size ≤ sizeLine) (st : ZSt z TI TO i1 i2 l1 l2 S xs ys t0 0 s.heap) (hSh : s.heap.get? S = some { cls := .type "list", data := .seq #[] })
    (hR : ∀ h' c', (∀ b o, b ∉ [S, z, TO, i1, i2] → s.heap.get? b = some o → h'.get? b = some o) → h'.get? S = some { cls := .type "list", dict := none, data := .seq ((List.range xs.size).map (fun j => Value.ref (t0 + j))).toArray c', slots := #[] } →
      (∀ j x y, j < xs.size → xs[j]? = some x → ys[j]? = some y → IsPair h' (t0 + j) x y) → R (.ok (.ret .none)) { s with heap := h' }) :
    wpAny (model prog w) A.in1 (Builtin.«list.__init__» ⟨[.ref S, .ref z], []⟩)
      (fun fin s' => match fin with | .done f => R (.ok f) s' | .again c' => c'.quiet = true ∧ codeAny (model prog w) A c' R s') (fun e s' => R (.error e) s') s := by
  have lS : S < t0 := lt S (by simp)
  show wpAny _ _ (do let old ← Builtin.List.listItems (.ref S); Builtin.List.listUpdate (.ref S) (fun _ => #[]); letGo old.toList.reverse; Builtin.List.listExtendWith (.ref S) (.ref z) .none) _ _ s
  refine wpAny_bind ?_
  unfold Builtin.List.listItems
  refine wpAny_bind (wpAny_seqItems hSh rfl (wpAny_pure ?_))
  show wpAny _ _ (updateSeq S (fun _ => #[]) >>= fun _ => letGo (#[] : Array Value).toList.reverse >>= fun _ => Builtin.List.listExtendWith (.ref S) (.ref z) .none) _ _ s
  refine wpAny_bind (wpAny_updateSeq hSh rfl ?_)
  have hS₂ := Heap.get?_update_self (Obj.mapSeq (fun _ => (#[] : Array Value))) hSh rfl
  refine wpAny_bind (wpAny_letGo ?_)
  refine zl_extend hh D lt hS he hn .none _ (st.frame hS lS (Heap.SameBut.update ..)) hS₂ fun h' c' hk hS' hp => ?_
  refine hR h' c' (fun b o hb e => hk b o hb ?_) hS' hp
  have hbS : S ≠ b := fun h : S = b => hb (by rw [← h]; exact List.mem_cons_self)
  exact (Heap.get?_update_other _ _ hbS).trans e
theorem zl_call {A : Around} {s : Shared} {E : Value → Shared → Prop} {Q : Value → Shared → Prop} {l1 l2 : Addr} {xs ys : Array Value} (hh : A.handled = none) (hl1 : s.heap.IsTuple l1 xs) (hl2 : s.heap.IsTuple l2 ys) (he : xs.size = ys.size) (hn : xs.size ≤ sizeLine)
    (hQ : ∀ h' c', (∀ b o, s.heap.get? b = some o → h'.get? b = some o) → h'.get? (s.heap.objs.size + 5) = some { cls := .type "list", dict := none, data := .seq ((List.range xs.size).map (fun j => Value.ref (s.heap.objs.size + 6 + j))).toArray c', slots := #[] } →
      (∀ j x y, j < xs.size → xs[j]? = some x → ys[j]? = some y → IsPair h' (s.heap.objs.size + 6 + j) x y) → Q (.ref (s.heap.objs.size + 5)) { s with heap := h' }) :
    wpAny (model prog w) A (call (.type "zip") [.ref l1, .ref l2]) (fun v s1 => wpAny (model prog w) A (call (.type "list") [v]) Q E s1) E s := by
  have lt1 : l1 < s.heap.objs.size := by obtain ⟨o, q, _⟩ := id hl1; exact Heap.lt_size q
  have lt2 : l2 < s.heap.objs.size := by obtain ⟨o, q, _⟩ := id hl2; exact Heap.lt_size q
  refine RZ.call_zipT hl1 hl2 fun h' hz hTI hTO h1 h2 hsz hk => ?_
  have D := PySem.W.ktu_apart s.heap.objs.size l1 l2 lt1 lt2
  refine callType_codes (s := { s with heap := h' }) (Q₁ := fun obj s₁ => obj = .ref h'.objs.size ∧ s₁ = { s with heap := h'.push { cls := .type "list", data := .seq #[] } }) PySem.F.called_list (PySem.F.typeCall_list_1 _) PySem.F.entry_list_init
    (code_list_new _ ⟨rfl, rfl⟩) fun obj s₁ h₁ => ?_
  obtain ⟨rfl, rfl⟩ := h₁
  have hS : (h'.push { cls := .type "list", data := .seq #[] }).get? h'.objs.size = some { cls := .type "list", data := .seq #[] } := Heap.get?_push_size _ rfl
  rw [hsz] at hS ⊢
  have up : ∀ {b o}, h'.get? b = some o → (h'.push { cls := .type "list", data := .seq #[] }).get? b = some o := fun e => Heap.get?_push_of_some _ e
  refine ⟨⟨_, hS, rfl⟩, PySem.F.args_list_init_2 _ _, zl_init (t0 := s.heap.objs.size + 6) (A := A.in1) (xs := xs) (ys := ys) hh D (fun c hc => ?_) (fun c hc => ?_) he hn ⟨.inl ⟨rfl, up hz⟩, up hTI, ⟨_, _, up hTO⟩, h1.at fun o e => up e, h2.at fun o e => up e, hl1.at fun o e => up (hk _ o e), hl2.at fun o e => up (hk _ o e), by rw [Heap.size_push, hsz], fun j x y hj => absurd hj (Nat.not_lt_zero _)⟩ hS fun h'' c' hk' hS' hp => ⟨rfl, ?_⟩⟩
  · simp only [List.mem_cons, List.not_mem_nil, or_false] at hc
    rcases hc with q | q | q | q | q | q | q | q
    all_goals (subst q; first | exact Nat.lt_succ_of_le (by first | exact Nat.le_refl _ | exact Nat.le_add_right _ _ | exact Nat.add_le_add_left (by decide) _) | exact Nat.lt_of_lt_of_le lt1 (Nat.le_add_right _ _) | exact Nat.lt_of_lt_of_le lt2 (Nat.le_add_right _ _))
  · simp only [List.mem_cons, List.not_mem_nil, or_false] at hc
    rcases hc with q | q | q | q | q | q | q
    all_goals (subst q; refine Nat.ne_of_lt ?_; first | exact Nat.lt_succ_of_le (by first | exact Nat.le_refl _ | exact Nat.le_add_right _ _ | exact Nat.add_le_add_left (by decide) _) | exact Nat.lt_of_lt_of_le lt1 (Nat.le_add_right _ _) | exact Nat.lt_of_lt_of_le lt2 (Nat.le_add_right _ _))
  · refine hQ h'' c' (fun b o e => hk' b o (fun q => ?_) (up (hk b o e))) hS' hp
    have lb := Heap.lt_size e
    simp only [List.mem_cons, List.not_mem_nil, or_false] at q
    rcases q with q | q | q | q | q
    all_goals (subst q; exact absurd lb (Nat.not_lt_of_le (by first | exact Nat.le_refl _ | exact Nat.le_add_right _ _)))
end
end PySem.W
namespace DD
open PySem PySem.Spec PyProof.Rows L2
section
variable {X : Cx} {E : WX} {pins : List (Addr × Obj)} {σ : L2.St} {H H' : Hp} {s : Shared} {h' : Heap}
/-- several new things are laid -/
theorem Inv.many {t' : Nat} (I : Inv X pins σ H s) (k : ∀ b u, s.heap.get? b = some u → h'.get? b = some u) (sm : Same H H') (hl : ∀ b, b < s.heap.objs.size → H' b = H b)
    (new : ∀ b o, s.heap.objs.size ≤ b → H' b = some o → ObjOk X.prog X.w H' h' b o) : Inv X pins σ H' { s with heap := h', toks := t' } := by
  refine I.un ⟨fun b u q _ _ _ => k b u q, fun b u q _ _ _ => ⟨u.slots, k b u q⟩, fun b u q n _ => (hl b (Heap.lt_size q)).trans n, fun b u q _ => ⟨u, k b u q⟩, fun b xs q => sm _ _ q, fun b o u q => sm _ _ q, fun b ps q => ⟨#[], by rw [sm _ _ q]; simp⟩⟩ fun b u e => ?_
  by_cases hb : b < s.heap.objs.size
  · rw [hl b hb] at e
    exact (I.hok b u e).stay (fun c v _ q => k c v q) (fun c q => sm _ _ q) fun c xs q => sm _ _ q
  · exact new b u (Nat.le_of_not_lt hb) e
/-- new tuples in a row -/
def rowH (H : Hp) (t0 : Addr) (ps : List (List V)) : Hp := fun b => if t0 ≤ b then (match ps[b - t0]? with
  | some xs => some (.tup xs)
  | none => H b) else H b
theorem rowH_at {t0 : Addr} {ps : List (List V)} {j : Nat} {xs : List V} (h : ps[j]? = some xs) : rowH H t0 ps (t0 + j) = some (.tup xs) := by
  have h1 : t0 ≤ t0 + j := Nat.le_add_right _ _
  have h2 : t0 + j - t0 = j := Nat.add_sub_cancel_left _ _
  unfold rowH
  rw [if_pos h1, h2, h]
theorem rowH_inv {t0 : Addr} {ps : List (List V)} {b : Addr} : rowH H t0 ps b = H b ∨ ∃ j xs, b = t0 + j ∧ ps[j]? = some xs ∧ rowH H t0 ps b = some (.tup xs) := by
  by_cases h1 : t0 ≤ b
  · cases h2 : ps[b - t0]? with
    | none => exact .inl (by unfold rowH; rw [if_pos h1, h2])
    | some xs => exact .inr ⟨b - t0, xs, (Nat.add_sub_of_le h1).symm, h2, by unfold rowH; rw [if_pos h1, h2]⟩
  · exact .inl (by unfold rowH; rw [if_neg h1])
theorem rowH_same {t0 : Addr} {ps : List (List V)} (h : ∀ j, H (t0 + j) = none) : Same H (rowH H t0 ps) := fun b u e => by
  rcases rowH_inv (H := H) (t0 := t0) (ps := ps) (b := b) with q | ⟨j, xs, rfl, _, _⟩
  · rw [q]; exact e
  · rw [h j] at e; cases e
def refsAt (t0 : Addr) (n : Nat) : List V := (List.range n).map fun j => V.ref (t0 + j)
def tLZ (K : PySem.W.Frag) (ta : TA) : TE := fun σ H Q => ta σ H fun vs H1 => ∃ a b xs ys, vs = [.ref a, .ref b] ∧ SqT K H1 a xs ∧ SqT K H1 b ys ∧ xs.length = ys.length ∧
  ∀ l t0, H1 l = none → l < t0 → (∀ j, H1 (t0 + j) = none) → Q (.ref l) (upd (rowH H1 t0 ((xs.zip ys).map fun p => [p.1, p.2])) l (.lst (refsAt t0 xs.length)))
theorem vals_row : ∀ (t0 : Addr) (l : List Nat), Vals (l.map fun j => V.ref (t0 + j)) (l.map fun j => Value.ref (t0 + j))
  | _, [] => .nil
  | t0, _ :: r => .cons rfl (vals_row t0 r)
variable {e e2 : Expr} {ta : TA} {p p2 pos pos2 : Pos}
theorem pe_listzip (hcalm : X.calm = true) (hgl : Gl X "list") (hml : X.mg "list" = none) (hgz : Gl X "zip") (hmz : X.mg "zip" = none) (ha : PA X [e, e2] ta)
    (hs : starEach [e, e2] X.env = (false, eval e X.env) :: starEach [e2] X.env := by rfl) (hpl : (backTo pos2 (starEach [e2] X.env)).any (·.1) = false := by rfl)
    (hs2 : starEach [.Call (.Name "zip" p2) [e, e2] [] pos2] X.env = (false, eval (.Call (.Name "zip" p2) [e, e2] [] pos2) X.env) :: starEach [] X.env := by rfl) :
    PE X (.Call (.Name "list" p) [.Call (.Name "zip" p2) [e, e2] [] pos2] [] pos) (tLZ X.K ta) := by
  refine ⟨fun pins s σ H Q I h => ?_⟩
  refine wpAny_Call_Name_kw (ld_blt I hgl hml (by first | exact PyProof.Rows.boot_list | rfl) ?_)
  refine PyProof.Rows.callWith_type1 ?_ hs2 rfl
  rw [hs2]
  show wpAny _ _ (spliced ((false, eval (.Call (.Name "zip" p2) [e, e2] [] pos2) X.env) :: [])) _ _ s
  refine Calls.spliced_cons ?_
  refine wpAny_Call_Name_kw (ld_blt I hgz hmz PyProof.Rows.boot_zip ?_)
  refine PyProof.Rows.callWith_type1 (thn (ha.run pos2 pins s σ H _ I h) fun us s1 ⟨vs, H1, I1, r1, q1⟩ => ?_) hs hpl
  obtain ⟨a, b, xs, ys, ex, hqx, hqy, hle, q1⟩ := q1
  subst ex
  cases r1 with
  | cons r rr =>
    cases rr with
    | cons r' rr =>
      cases rr
      cases r
      cases r'
      obtain ⟨its, rv, p1, z1⟩ := I1.tuple hqx
      obtain ⟨its2, rv2, p2, z2⟩ := I1.tuple hqy
      have l1 := rv.length
      have l2 := rv2.length
      refine thn (PySem.W.zl_call (E := X.xe) (I1.ok.hd hcalm) p1 p2 (by simp only [List.size_toArray]; omega) (by simp only [List.size_toArray]; omega) fun h' c' kp hL hp => ?_) fun v s2 q => Calls.spliced_nil q
      have hfresh : ∀ b, s1.heap.objs.size ≤ b → H1 b = none := fun b hb => I1.hok.fresh hb
      have g5 : s1.heap.objs.size ≤ s1.heap.objs.size + 5 := Nat.le_add_right _ _
      have g6 : ∀ j, s1.heap.objs.size ≤ s1.heap.objs.size + 6 + j := fun j => Nat.le_trans (Nat.le_add_right _ 6) (Nat.le_add_right _ _)
      have sm1 : Same H1 (rowH H1 (s1.heap.objs.size + 6) ((xs.zip ys).map fun p => [p.1, p.2])) := rowH_same fun j => hfresh _ (g6 j)
      have n5 : rowH H1 (s1.heap.objs.size + 6) ((xs.zip ys).map fun p => [p.1, p.2]) (s1.heap.objs.size + 5) = none := by
        rcases rowH_inv (H := H1) (t0 := s1.heap.objs.size + 6) (ps := (xs.zip ys).map fun p => [p.1, p.2]) (b := s1.heap.objs.size + 5) with q | ⟨j, _, q, _⟩
        · rw [q]; exact hfresh _ g5
        · exact absurd q (by show s1.heap.objs.size + 5 ≠ s1.heap.objs.size + 6 + j; omega)
      refine ⟨.ref (s1.heap.objs.size + 5), _, Inv.many (t' := s1.toks) I1 kp (sm1.trans (same_upd n5)) (fun b hb => ?_) (fun b o hb eo => ?_), rfl, q1 (s1.heap.objs.size + 5) (s1.heap.objs.size + 6) (hfresh _ g5) (Nat.lt_succ_self _) fun j => hfresh _ (g6 j)⟩
      · rw [upd_ne (Nat.ne_of_lt (Nat.lt_of_lt_of_le hb g5))]
        rcases rowH_inv (H := H1) (t0 := s1.heap.objs.size + 6) (ps := (xs.zip ys).map fun p => [p.1, p.2]) (b := b) with q | ⟨j, _, q, _⟩
        · exact q
        · exact absurd hb (by rw [q]; exact Nat.not_lt_of_le (g6 j))
      · by_cases h5 : b = s1.heap.objs.size + 5
        · subst h5
          rw [upd_same] at eo
          cases eo
          refine ⟨by simp only [refsAt, List.length_map, List.length_range]; omega, (List.range xs.length).map (fun j => Value.ref (s1.heap.objs.size + 6 + j)), c', vals_row _ _, ?_⟩
          rw [hL]
          simp only [List.size_toArray, l1]
        · rw [upd_ne h5] at eo
          rcases rowH_inv (H := H1) (t0 := s1.heap.objs.size + 6) (ps := (xs.zip ys).map fun p => [p.1, p.2]) (b := b) with q | ⟨j, zs, q, ej, q2⟩
          · rw [q, hfresh b hb] at eo; cases eo
          · rw [q2] at eo
            cases eo
            subst q
            rw [List.getElem?_map] at ej
            cases ez : (xs.zip ys)[j]? with
            | none => rw [ez] at ej; cases ej
            | some pr =>
              rw [ez] at ej
              cases ej
              obtain ⟨e1, e2⟩ := List.getElem?_zip_eq_some.mp ez
              obtain ⟨u1, eu1, ru1⟩ := rv.get e1
              obtain ⟨u2, eu2, ru2⟩ := rv2.get e2
              have hj : j < its.toArray.size := by
                have := (List.getElem?_eq_some_iff.mp eu1).1
                simpa using this
              have hT := hp j u1 u2 hj (by simpa using eu1) (by simpa using eu2)
              exact ⟨by show 2 ≤ sizeLine; decide, [u1, u2], .cons ru1 (.cons ru2 .nil), ⟨_, hT, rfl, _, rfl⟩⟩
def lzD : List D → Option R
  | [.tup a, .tup b] => if a.length = b.length then some (.own (.lst (zipD a b))) else none
  | _ => none
theorem Ok.rows {K : PySem.W.Frag} {W : Wd} {F H : Hp} {S : Sta} {σ : L2.St} (k : Ok K W F S σ H) {t0 : Addr} {ps : List (List V)} (h : ∀ j, H (t0 + j) = none) : Same F (rowH F t0 ps) ∧ Ok K W (rowH F t0 ps) S σ (rowH H t0 ps) := by
  have hf : ∀ j, F (t0 + j) = none := fun j => k.fh.free (h j)
  refine ⟨rowH_same hf, k.grow (rowH_same h) (rowH_same hf) (fun b u e => ?_) fun b e => ?_⟩
  · rcases rowH_inv (H := F) (t0 := t0) (ps := ps) (b := b) with q | ⟨j, xs, rfl, q, q2⟩
    · rw [q] at e
      exact rowH_same h _ _ (k.fh _ _ e)
    · rw [q2] at e
      cases e
      exact rowH_at q
  · rcases rowH_inv (H := F) (t0 := t0) (ps := ps) (b := b) with q | ⟨j, xs, rfl, q, q2⟩
    · exact q
    · exact absurd (h j) e
theorem reps_row {K : PySem.W.Frag} {dp : Addr} {F F0 : Hp} {t0 : Addr} {ps : List (List V)} (s : Same (rowH F0 t0 ps) F) : ∀ {ds : List D} (n : Nat), (∀ i, n ≤ i → i < n + ds.length → ∃ es xs, ds[i - n]? = some (.tup es) ∧ ps[i]? = some xs ∧ Reps K dp F es xs) → Reps K dp F ds ((List.range' n ds.length).map fun j => V.ref (t0 + j))
  | [], n, _ => .nil
  | d :: ds, n, h => by
    rw [List.length_cons, List.range'_succ, List.map_cons]
    obtain ⟨es, xs, e1, e2, r⟩ := h n (Nat.le_refl _) (by simp)
    rw [Nat.sub_self] at e1
    cases e1
    refine .cons (.tup (.inl (.inl (s _ _ (rowH_at e2)))) r) (reps_row s (n + 1) fun i h1 h2 => ?_)
    obtain ⟨es', xs', e1', e2', r'⟩ := h i (by omega) (by simp only [List.length_cons]; omega)
    refine ⟨es', xs', ?_, e2', r'⟩
    rw [← e1']
    have : i - n = (i - (n + 1)) + 1 := by omega
    rw [this]
    rfl
theorem de_listzip {ga : M (List D)} (hcalm : X.calm = true) (hgl : Gl X "list") (hml : X.mg "list" = none) (hgz : Gl X "zip") (hmz : X.mg "zip" = none) (ha : DA X E [e, e2] ga)
    (hs : starEach [e, e2] X.env = (false, eval e X.env) :: starEach [e2] X.env := by rfl) (hpl : (backTo pos2 (starEach [e2] X.env)).any (·.1) = false := by rfl)
    (hs2 : starEach [.Call (.Name "zip" p2) [e, e2] [] pos2] X.env = (false, eval (.Call (.Name "zip" p2) [e, e2] [] pos2) X.env) :: starEach [] X.env := by rfl) :
    DE X E (.Call (.Name "list" p) [.Call (.Name "zip" p2) [e, e2] [] pos2] [] pos) (lsM lzD ga) := by
  refine PE.mono' (pe_listzip hcalm hgl hml hgz hmz ha hs hpl hs2) fun σ H Q ⟨W, F, S, k, pp⟩ => ?_
  refine tA_bind k pp fun ds S1 vs F1 H1 s1 k1 rr p1 => ?_
  obtain ⟨res, e, q⟩ := mo_some p1
  match ds, rr, e with
  | [.tup a, .tup b], rr, e =>
    obtain ⟨hz, rfl⟩ := ifs (show (if a.length = b.length then some (R.own (.lst (zipD a b))) else none) = some res from e)
    obtain ⟨v, w, rfl, r1, r2⟩ := rr.two
    obtain ⟨a1, xs, rfl, h1, rs1⟩ := r1.tupV
    obtain ⟨a2, ys, rfl, h2, rs2⟩ := r2.tupV
    have hlen : xs.length = ys.length := by rw [← rs1.length, ← rs2.length]; exact hz
    refine ⟨a1, a2, xs, ys, rfl, Same.seqT k1.fh h1, Same.seqT k1.fh h2, hlen, fun l t0 hl hlt ht => ?_⟩
    obtain ⟨sF, k2⟩ := k1.rows (t0 := t0) (ps := (xs.zip ys).map fun p => [p.1, p.2]) ht
    have hl2 : rowH H1 t0 ((xs.zip ys).map fun p => [p.1, p.2]) l = none := by
      rcases rowH_inv (H := H1) (t0 := t0) (ps := (xs.zip ys).map fun p => [p.1, p.2]) (b := l) with q | ⟨j, _, q, _⟩
      · rw [q]; exact hl
      · exact absurd hlt (by rw [q]; exact Nat.not_lt_of_le (Nat.le_add_right _ _))
    refine q _ _ _ sF (k2.newO hl2) (k2.ownNew hl2 ⟨_, rfl, ?_⟩)
    have hlz : (zipD a b).length = xs.length := by simp [zipD, rs1.length, rs2.length, hlen]
    have := reps_row (K := X.K) (dp := W.dp) (t0 := t0) (ps := (xs.zip ys).map fun p => [p.1, p.2]) (F0 := F1) (Same.refl _) (ds := zipD a b) 0 fun i _ hi => ?_
    · unfold refsAt
      rw [← hlz, List.range_eq_range']
      exact this
    · rw [Nat.zero_add, hlz] at hi
      have hi2 : i < ys.length := by omega
      obtain ⟨d1, e1, q1⟩ := rs1.getV (List.getElem?_eq_getElem hi)
      obtain ⟨d2, e2, q2⟩ := rs2.getV (List.getElem?_eq_getElem hi2)
      refine ⟨[d1, d2], [xs[i], ys[i]], ?_, ?_, .cons (q1.mono sF) (.cons (q2.mono sF) .nil)⟩
      · unfold zipD
        have hz2 : (a.zip b)[i]? = some (d1, d2) := List.getElem?_zip_eq_some.mpr ⟨e1, e2⟩
        rw [Nat.sub_zero, List.getElem?_map, hz2]
        rfl
      · have hz2 : (xs.zip ys)[i]? = some (xs[i], ys[i]) := List.getElem?_zip_eq_some.mpr ⟨List.getElem?_eq_getElem hi, List.getElem?_eq_getElem hi2⟩
        rw [List.getElem?_map, hz2]
        rfl
end
end DD

end
section
set_option Elab.async false
set_option Elab.async false
set_option linter.all false
set_option maxRecDepth 100000
set_option maxHeartbeats 2000000
set_option autoImplicit false
namespace DD
open PySem PySem.Spec PyProof.Rows L2

/-! ### what is not claimed -/
def noM {α : Type} : M α := fun _ => .bad
section
variable {X : Cx} {E : WX}
theorem de_bad {e : Expr} : DE X E e noM := ⟨fun pins s σ H Q I ⟨W, F, S, k, p⟩ => p.elim⟩
theorem dt_bad {e : Expr} : DT X E e noM := ⟨fun pins s σ H Q I ⟨W, F, S, k, p⟩ => p.elim⟩
theorem da_bad {e : List Expr} : DA X E e noM := ⟨fun pos pins s σ H Q I ⟨W, F, S, k, p⟩ => p.elim⟩
theorem ds_bad {e : Stmt} : DS X E e noM := ⟨fun pins s σ H Q I ⟨W, F, S, k, p⟩ => p.elim⟩
theorem dss_bad {e : List Stmt} : DSs X E e noM := ⟨fun pins s σ H Q I ⟨W, F, S, k, p⟩ => p.elim⟩
/-! ### global names -/
theorem de_gint {x : Str} {i : Int} {pos : Pos} (hg : Gl X x) (hm : ∃ t, X.mg x = some (.int i t)) (hd : (x == ("__debug__" : Str)) = false := by decide) : DE X E (.Name x pos) (mp (.val (.int i))) := by
  obtain ⟨t, h⟩ := hm
  exact de_c (pe_glob (v := .int i) hg h ⟨t, rfl⟩ hd) fun _ _ => .int i
theorem de_gstr {x : Str} {i : Str} {pos : Pos} (hg : Gl X x) (hm : ∃ t, X.mg x = some (.str i t)) (hd : (x == ("__debug__" : Str)) = false := by decide) : DE X E (.Name x pos) (mp (.val (.str i))) := by
  obtain ⟨t, h⟩ := hm
  exact de_c (pe_glob (v := .str i) hg h ⟨t, rfl⟩ hd) fun _ _ => .str i
theorem de_gadr {x : Str} {a : Addr} {pos : Pos} (hg : Gl X x) (hm : X.mg x = some (.ref a)) (hd : (x == ("__debug__" : Str)) = false := by decide) : DE X E (.Name x pos) (mp (.val (.adr a))) :=
  de_c (pe_glob (v := .ref a) hg hm rfl hd) fun _ _ => .adr a
theorem de_gty {x : Str} {n : String} {pos : Pos} (hg : Gl X x) (hm : X.mg x = none) (hv : bootBuiltins x = some (.type n)) (hn : x ≠ "__name__" := by decide) (hd : (x == ("__debug__" : Str)) = false := by decide) : DE X E (.Name x pos) (mp (.val (.ty n))) :=
  de_c (pe_bltn (v := .ty n) hg hm hv rfl hn hd) fun _ _ => .ty n
/-- a tuple of ints, texts that the module's name holds -/
theorem de_gval {x : Str} {a : Addr} {d : D} {pos : Pos} (hg : Gl X x) (hm : X.mg x = some (.ref a)) (r : ∀ dp F, Rep X.K dp F d (.ref a)) (hd : (x == ("__debug__" : Str)) = false := by decide) : DE X E (.Name x pos) (mp (.val d)) :=
  de_c (pe_glob (v := .ref a) hg hm rfl hd) r
end

/-! ### a def and its promise -/
/-- the def x of the module: its promise at level k -/
def Cal (P : Program) (w : World) (K : PySem.W.Frag) (mg : Str → Option Value) (base : Heap) (k : Nat) (x : Str) (n : Nat) (fn : Fn) : Prop :=
  ∃ fd ps, ps.length = n ∧ mg x = some (.ref (He.ga K x)) ∧ PySem.W.keepIn K (.ref (He.ga K x)) = true ∧ Binds K fd ps [] ∧ FnOk P w K mg base CX0 k (He.ga K x) fd ps (spD K n fn)
/-- .. called by keywords -/
def permK {α : Type} (d : α) (p q : Nat) (pm : List Nat) (us ws : List α) : List α := if us.length = p ∧ ws.length = q then pm.map fun i => (us ++ ws).getD i d else []
def KCal (P : Program) (w : World) (K : PySem.W.Frag) (mg : Str → Option Value) (base : Heap) (k : Nat) (x : Str) (p : Nat) (ks : List Str) (pm : List Nat) (fn : Fn) : Prop :=
  ∃ fd ps, ps.length = pm.length ∧ mg x = some (.ref (He.ga K x)) ∧ PySem.W.keepIn K (.ref (He.ga K x)) = true ∧ KBinds K fd ps ks (permK .none p ks.length pm) (permK .non p ks.length pm) ∧ FnOk P w K mg base CX0 k (He.ga K x) fd ps (spD K pm.length fn)
theorem vals_getD : ∀ {vs : List V} {us : List Value} (i : Nat), Vals vs us → RelV (vs.getD i .non) (us.getD i .none)
  | _, _, i, .nil => by simp only [List.getD_nil]; exact (rfl : Value.none = Value.none)
  | _, _, 0, .cons r _ => r
  | _, _, i + 1, .cons _ t => by simpa using vals_getD i t
theorem vals_perm {p q : Nat} {vs zs : List V} {us ws : List Value} (r1 : Vals vs us) (r2 : Vals zs ws) (pm : List Nat) : Vals (permK .non p q pm vs zs) (permK .none p q pm us ws) := by
  unfold permK
  rw [r1.length, r2.length]
  by_cases h : us.length = p ∧ ws.length = q
  · rw [if_pos h, if_pos h]
    have r := r1.append r2
    induction pm with
    | nil => exact .nil
    | cons i pm ih => exact .cons (vals_getD i r) ih
  · rw [if_neg h, if_neg h]; exact .nil
section
variable {P : Program} {w : World} {K : PySem.W.Frag} {mg : Str → Option Value} {base : Heap} {x : Str} {params : Arguments} {body : List Stmt} {scope : Scope} {fd : FuncData} {k : Nat} {fn : Fn} {ps : List Str}
theorem cal_of (hm : mg x = some (.ref (He.ga K x))) (F : FunD K x x params body scope [] [] (He.ga K x) fd)
    (h : ∀ (kV doc pm : Value) (an : Option Addr) (cdv ct : Value) (us : List Value), us.length = ps.length → bindArgs (PySem.W.fnOf x x params body scope .none kV doc pm an cdv ct) ⟨us, []⟩ = pure (ps.zip us))
    (hf : FnOk P w K mg base CX0 k (He.ga K x) fd ps (spD K ps.length fn)) : Cal P w K mg base k x ps.length fn :=
  ⟨fd, ps, rfl, hm, F.kp, F.bindsN h, hf⟩
theorem kcal_of {p : Nat} {ks : List Str} {pm : List Nat} (hm : mg x = some (.ref (He.ga K x))) (F : FunD K x x params body scope [] [] (He.ga K x) fd) (hl : ps.length = pm.length) (h0 : pm ≠ [])
    (h : ∀ (kV doc pm' : Value) (an : Option Addr) (cdv ct : Value) (us ws : List Value), us.length = p → ws.length = ks.length → bindArgs (PySem.W.fnOf x x params body scope .none kV doc pm' an cdv ct) ⟨us, ks.zip ws⟩ = pure (ps.zip (permK .none p ks.length pm us ws)))
    (hf : FnOk P w K mg base CX0 k (He.ga K x) fd ps (spD K ps.length fn)) : KCal P w K mg base k x p ks pm fn := by
  rw [hl] at hf
  refine ⟨fd, ps, hl, hm, F.kp, ⟨fun s us ws X hlen => ?_, fun r1 r2 => vals_perm r1 r2 pm⟩, hf⟩
  obtain ⟨oc, od, dV, kV, doc, pm', an, cdv, ct, osl, rfl, lk, hcd, hD, hK⟩ := F.ex
  rcases hD with ⟨_, rfl⟩ | ⟨e, _⟩
  · by_cases hz : us.length = p ∧ ws.length = ks.length
    · exact BindsTo.of_eq (h kV doc pm' an cdv ct us ws hz.1 hz.2)
    · unfold permK at hlen
      rw [if_neg hz] at hlen
      rw [hl] at hlen
      exact absurd (List.eq_nil_of_length_eq_zero hlen.symm) h0
  · exact absurd rfl e
end
section
variable {X : Cx} {E : WX} {k n : Nat} {fn : Fn} {x : Str} {p pos : Pos} {e : Expr} {es : List Expr} {kws : List Keyword} {ga gk : M (List D)}
theorem de_cal (C : Cal X.prog X.w X.K X.mg X.base k x n fn) (hr : Room k X.A) (hg : Gl X x) (ha : DA X E (e :: es) ga) (hdb : (x == ("__debug__" : Str)) = false := by decide)
    (he : starEach (e :: es) X.env = (false, eval e X.env) :: starEach es X.env := by rfl) (hpl : (backTo pos (starEach es X.env)).any (·.1) = false := by rfl) : DE X E (.Call (.Name x p) (e :: es) [] pos) (callM n fn ga) := by
  obtain ⟨fd, ps, hl, hm, hk, hb, F⟩ := C
  exact de_call F hr hg hm hk hb ha hdb he hpl
theorem de_cal0 (C : Cal X.prog X.w X.K X.mg X.base k x n fn) (hr : Room k X.A) (hg : Gl X x) (hdb : (x == ("__debug__" : Str)) = false := by decide) : DE X E (.Call (.Name x p) [] [] pos) (callM n fn (mp [])) := by
  obtain ⟨fd, ps, hl, hm, hk, hb, F⟩ := C
  exact de_call0 F hr hg hm hk hb hdb
def kwM (p q : Nat) (pm : List Nat) (ga gk : M (List D)) : M (List D) := mb ga fun us => mb gk fun ws => mp (permK .non p q pm us ws)
theorem reps_getD {K : PySem.W.Frag} {dp : Addr} {F : Hp} : ∀ {ds : List D} {vs : List V} (i : Nat), Reps K dp F ds vs → Rep K dp F (ds.getD i .non) (vs.getD i .non)
  | _, _, i, .nil => by simp only [List.getD_nil]; exact .non
  | _, _, 0, .cons r _ => r
  | _, _, i + 1, .cons _ t => by simpa using reps_getD i t
theorem reps_perm {K : PySem.W.Frag} {dp : Addr} {F : Hp} {p q : Nat} {ds es : List D} {vs zs : List V} (r1 : Reps K dp F ds vs) (r2 : Reps K dp F es zs) (pm : List Nat) : Reps K dp F (permK .non p q pm ds es) (permK .non p q pm vs zs) := by
  unfold permK
  rw [r1.length, r2.length]
  by_cases h : vs.length = p ∧ zs.length = q
  · rw [if_pos h, if_pos h]
    have r := r1.app r2
    induction pm with
    | nil => exact .nil
    | cons i pm ih => exact .cons (reps_getD i r) ih
  · rw [if_neg h, if_neg h]; exact .nil
theorem kCall_of {pp q : Nat} {pm : List Nat} {ga gk : M (List D)} {t : TA} (ht : ∀ σ H Q, tA X.K E ga σ H Q → t σ H Q) : ∀ σ H Q, tD X.K E (callM n fn (kwM pp q pm ga gk)) σ H Q → tCallK (spD X.K n fn) (permK .non pp q pm) E0 t (tA X.K E gk) σ H Q := by
  intro σ H Q ⟨W, F, S, k, pst⟩
  refine ht _ _ _ ?_
  have pst2 : PostE X.K E W F σ (mb ga (fun us => mb gk fun ws => callM n fn (mp (permK .non pp q pm us ws))) S) Q := by
    have e : callM n fn (kwM pp q pm ga gk) S = mb ga (fun us => mb gk fun ws => callM n fn (mp (permK .non pp q pm us ws))) S := by
      unfold callM kwM mb
      cases ga S with
      | ok us S1 => simp only; cases gk S1 with
        | ok ws S2 => rfl
        | exc x S2 => rfl
        | bad => rfl
      | exc x S1 => rfl
      | bad => rfl
    rw [← e]; exact pst
  refine tA_bind k pst2 fun us S1 vs F1 H1 s1 k1 rr p1 => ?_
  refine tA_bind k1 p1 fun ws S3 zs F3 H3 s3 k3 rz p3 => ?_
  have rperm := reps_perm (p := pp) (q := q) (rr.mono s3) rz pm
  unfold callM mb mp at p3
  simp only at p3
  by_cases hl : (permK D.non pp q pm us ws).length = n
  · rw [if_pos hl] at p3
    refine ⟨W.dp, W.dq, F3, _, S3.st, rperm.length.symm.trans hl, k3.fh, k3.dl, rperm, ?_⟩
    cases e : fn (permK D.non pp q pm us ws) S3.st with
    | ok r st' =>
      simp only [e] at p3 ⊢
      cases hz : stOk S3.st st' with
      | false => rw [hz] at p3; exact p3.elim
      | true =>
        rw [hz] at p3
        simp only [if_true] at p3
        have hne := stOk_ne hz
        exact fun v F' H' A rf => p3 v F' H' A.ff (call_after k3 hne A) (call_rr k3 hne rf)
    | exc x st' => simp only [e] at p3; exact p3.elim
    | bad => simp only [e] at p3; exact p3.elim
  · rw [if_neg hl] at p3; exact p3.elim
theorem de_kcal {pp : Nat} {ks : List Str} {pm : List Nat} (C : KCal X.prog X.w X.K X.mg X.base k x pp ks pm fn) (hr : Room k X.A) (hg : Gl X x) (ha : DA X E (e :: es) ga) (hkw : DK X E kws gk)
    (hall : (backToKw pos (keywordEach kws X.env)).all (·.1.isSome) = true := by rfl) (hks : (backToKw pos (keywordEach kws X.env)).filterMap (·.1) = ks := by rfl) (hdb : (x == ("__debug__" : Str)) = false := by decide)
    (he : starEach (e :: es) X.env = (false, eval e X.env) :: starEach es X.env := by rfl)
    (hpl : ((backTo pos (starEach (e :: es) X.env)).any (·.1) || (backToKw pos (keywordEach kws X.env)).any (·.1.isNone)) = false := by rfl) : DE X E (.Call (.Name x p) (e :: es) kws pos) (callM pm.length fn (kwM pp ks.length pm ga gk)) := by
  obtain ⟨fd, ps, hl, hm, hk, hb, F⟩ := C
  exact PE.mono' (pe_callK F hr hg hm hk hb pass0 ha hkw hall hks hdb he hpl) (kCall_of fun _ _ _ z => z)
theorem pe_callK0 {CX : CXT} {f : Addr} {fd : FuncData} {ps ks : List Str} {sp : Sp} {EE : XK} {tk : TA} {g : List Value → List Value → List Value} {gV : List V → List V → List V} (F : FnOk X.prog X.w X.K X.mg X.base CX k f fd ps sp) (hr : Room k X.A) (hg : Gl X x) (hm : X.mg x = some (.ref f)) (hk : PySem.W.keepIn X.K (.ref f) = true) (hb : KBinds X.K fd ps ks g gV) (hx : Passes CX X EE)
    (hkw : PK X kws tk) (hall : (backToKw pos (keywordEach kws X.env)).all (·.1.isSome) = true := by rfl) (hks : (backToKw pos (keywordEach kws X.env)).filterMap (·.1) = ks := by rfl)
    (hdb : (x == ("__debug__" : Str)) = false := by decide) (hpl : ((backTo pos (starEach [] X.env)).any (·.1) || (backToKw pos (keywordEach kws X.env)).any (·.1.isNone)) = false := by rfl) :
    PE X (.Call (.Name x p) [] kws pos) (tCallK sp gV EE tNil tk) := by
  refine ⟨fun pins s σ H Q I h => ?_⟩
  refine wpAny_Call_Name_kw (ld_glob I hg hm ?_ hdb)
  refine PySem.W.callWith_KW0 (h₀ := X.base) I.ok.mod.kin hk hall (thn (hkw.run pos pins s σ H _ I h) fun ws s2 ⟨zs, H2, I2, rz, q2⟩ => ⟨I2.kIn, ?_⟩) hpl
  rw [hks]
  exact run_fnk F hr hb hx I2 .nil rz q2
theorem de_kcal0 {ks : List Str} {pm : List Nat} (C : KCal X.prog X.w X.K X.mg X.base k x 0 ks pm fn) (hr : Room k X.A) (hg : Gl X x) (hkw : DK X E kws gk)
    (hall : (backToKw pos (keywordEach kws X.env)).all (·.1.isSome) = true := by rfl) (hks : (backToKw pos (keywordEach kws X.env)).filterMap (·.1) = ks := by rfl) (hdb : (x == ("__debug__" : Str)) = false := by decide)
    (hpl : ((backTo pos (starEach [] X.env)).any (·.1) || (backToKw pos (keywordEach kws X.env)).any (·.1.isNone)) = false := by rfl) : DE X E (.Call (.Name x p) [] kws pos) (callM pm.length fn (kwM 0 ks.length pm (mp []) gk)) := by
  obtain ⟨fd, ps, hl, hm, hk, hb, F⟩ := C
  exact PE.mono' (pe_callK0 F hr hg hm hk hb pass0 hkw hall hks hdb hpl) (kCall_of fun σ H Q ⟨W, F, S, k, pp⟩ => pp [] F H (Same.refl _) k .nil)
end
end DD

end
section
set_option Elab.async false
set_option Elab.async false
set_option linter.all false
set_option maxRecDepth 100000
set_option maxHeartbeats 2000000
set_option autoImplicit false
namespace DD
open PySem PySem.Spec PyProof.Rows L2

/-! ### the law's deal: [cells, mix] -/
section
variable {K : PySem.W.Frag} {W : Wd} {F H H' : Hp} {S : Sta} {σ : L2.St} {i : Nat} {cs cs' : List Int} {m m' : Int}
theorem Ok.dealAt (k : Ok K W F S σ H) (es : S.sl[i]? = some (.val .deal)) (et : S.st = some (cs, m)) : σ[i]? = some (some (.ref W.dp)) ∧ W.dp ≠ W.dq ∧ H W.dp = some (.lst [.ref W.dq, .int m]) ∧ H W.dq = some (.lst (cs.map V.int)) := by
  obtain ⟨v, e1, r⟩ := k.sl i _ es
  cases r
  have q := k.dl
  rw [et] at q
  exact ⟨e1, q.1, q.2.2.2.1, q.2.2.2.2⟩
theorem Ok.updDeal (k : Ok K W F S σ H) (et : S.st = some (cs, m)) (h1 : H' W.dp = some (.lst [.ref W.dq, .int m'])) (h2 : H' W.dq = some (.lst (cs'.map V.int))) (ho : ∀ b, b ≠ W.dp → b ≠ W.dq → H' b = H b) : Ok K W F { S with st := some (cs', m') } σ H' := by
  have q := k.dl
  rw [et] at q
  obtain ⟨n, f1, f2, _, _⟩ := q
  obtain ⟨g1, g2⟩ := k.dg (by rw [et]; simp)
  refine ⟨fun b u e => ?_, fun b u e => ?_, k.ff, k.gf, ⟨n, f1, f2, h1, h2⟩, fun _ => ⟨g1, g2⟩, fun j s e => ?_, k.ap, k.len⟩
  · rw [ho b (ne_of_none e f1) (ne_of_none e f2)]; exact k.fh b u e
  · rw [ho b (ne_of_none e g1) (ne_of_none e g2)]; exact k.gh b u e
  · have y := k.sl j s e
    cases s with
    | un => trivial
    | val d => exact y
    | own o =>
      obtain ⟨v, e1, a, ho', rfl, f', g', d', q', r'⟩ := y
      obtain ⟨d1, d2⟩ := d' (by rw [et]; simp)
      exact ⟨_, e1, a, ho', rfl, f', g', fun _ => ⟨d1, d2⟩, by rw [ho a d1 d2]; exact q', r'⟩
end
section
variable {X : Cx} {E : WX} {e : Expr} {f : M R} {i : Nat} {p pos pos2 pos3 apos : Pos} {j1 j2 : Nat}
theorem atI_0 {α : Type} {a b : α} : atI [a, b] 0 = some a := rfl
theorem atI_1 {α : Type} {a b : α} : atI [a, b] 1 = some b := rfl
/-- deal[0] -/
abbrev tD0 (K : PySem.W.Frag) (i : Nat) : TE := tOp (rIx K) (tVar i) (tC (.int 0))
theorem tD0_of {K : PySem.W.Frag} {σ : L2.St} {H : Hp} {a b : Addr} {m : V} {Q : VK} (e : σ[i]? = some (some (.ref a))) (h : H a = some (.lst [.ref b, m])) (q : Q (.ref b) H) : tD0 K i σ H Q :=
  ⟨.ref a, e, .inl ⟨a, [.ref b, m], 0, .ref b, rfl, rfl, .inl (.inl h), rfl, q⟩⟩
def onDeal {α : Type} (i : Nat) (g : List Int → Int → M α) : M α := fun S => match S.sl[i]?, S.st with
  | some (.val .deal), some (cs, m) => g cs m S
  | _, _ => .bad
theorem onDeal_of {α : Type} {i : Nat} {g : List Int → Int → M α} {S : Sta} {Post : Res α → Prop} (hb : ¬ Post .bad) (p : Post (onDeal i g S)) : ∃ cs m, S.sl[i]? = some (.val .deal) ∧ S.st = some (cs, m) ∧ Post (g cs m S) := by
  unfold onDeal at p
  split at p
  · rename_i cs m e1 e2
    exact ⟨cs, m, e1, e2, p⟩
  · exact absurd p hb
def lenDeal (i : Nat) : M R := onDeal i fun cs m => mp (.val (.int cs.length))
theorem de_lenDeal (hg : Gl X "len") (hm : X.mg "len" = none) (ho : PE X e (tD0 X.K i)) (he : starEach [e] X.env = (false, eval e X.env) :: starEach [] X.env := by rfl) : DE X E (.Call (.Name "len" p) [e] [] pos) (lenDeal i) := by
  refine PE.mono' (pe_callB call_len hg hm PySem.boot_len (pa_cons ho pa_nil he) (he := he)) fun σ H Q ⟨W, F, S, k, pp⟩ => ?_
  obtain ⟨cs, m, e1, e2, p1⟩ := onDeal_of (Post := fun r => PostE X.K E W F σ r Q) (fun z => z) pp
  obtain ⟨a1, a2, a3, a4⟩ := k.dealAt e1 e2
  exact tD0_of a1 a3 ⟨_, cs.length, rfl, .inl ⟨_, .inl (.inl a4), by simp⟩, p1 _ F H (Same.refl _) k (.int _)⟩
def lastDeal (i : Nat) : M R := onDeal i fun cs m => mo ((atI cs (-1)).map fun c => .val (.int c))
theorem atI_map {α β : Type} (f : α → β) (xs : List α) (i : Int) : atI (xs.map f) i = (atI xs i).map f := by
  unfold atI
  rw [List.length_map]
  cases ixN xs.length i with
  | none => rfl
  | some j => simp
theorem de_lastDeal {b : Expr} (ho : PE X e (tD0 X.K i)) (hb : PE X b (tUn (rU fun i => .int (-i)) (tC (.int 1)))) (hs : PlainIx b) : DE X E (.Subscript e b pos) (lastDeal i) := by
  refine PE.mono' (pe_ix ix_seq ho hb hs) fun σ H Q ⟨W, F, S, k, pp⟩ => ?_
  obtain ⟨cs, m, e1, e2, p1⟩ := onDeal_of (Post := fun r => PostE X.K E W F σ r Q) (fun z => z) pp
  obtain ⟨a1, a2, a3, a4⟩ := k.dealAt e1 e2
  obtain ⟨res, e3, q⟩ := mo_some p1
  obtain ⟨c, e4, rfl⟩ := Option.map_eq_some_iff.mp e3
  refine tD0_of a1 a3 ⟨1, rfl, .inl ⟨W.dq, cs.map V.int, -1, .int c, rfl, rfl, .inl (.inl a4), by rw [atI_map, e4]; rfl, q _ F H (Same.refl _) k (.int _)⟩⟩
def mixDeal (i : Nat) : M R := onDeal i fun cs m => mp (.val (.int m))
theorem de_mixDeal {b : Expr} (ho : PE X e (tVar i)) (hb : PE X b (tC (.int 1))) (hs : PlainIx b) : DE X E (.Subscript e b pos) (mixDeal i) := by
  refine PE.mono' (pe_ix ix_seq ho hb hs) fun σ H Q ⟨W, F, S, k, pp⟩ => ?_
  obtain ⟨cs, m, e1, e2, p1⟩ := onDeal_of (Post := fun r => PostE X.K E W F σ r Q) (fun z => z) pp
  obtain ⟨a1, a2, a3, a4⟩ := k.dealAt e1 e2
  exact ⟨_, a1, .inl ⟨W.dp, _, 1, .int m, rfl, rfl, .inl (.inl a3), rfl, p1 _ F H (Same.refl _) k (.int _)⟩⟩
def popDeal (i : Nat) : M R := onDeal i fun cs m => fun S => match cs[cs.length - 1]? with
  | some c => .ok (.val (.int c)) { S with st := some (cs.dropLast, m) }
  | none => .bad
theorem de_popDeal (ho : PE X e (tD0 X.K i)) (hbase : attributeBase e "pop" X.env (eval e X.env) = eval e X.env := by rfl) (hline : (apos.endLine == pos.line) = true := by rfl) : DE X E (.Call (.Attribute e "pop" apos) [] [] pos) (popDeal i) := by
  refine PE.mono' (pe_bm0 PySem.F.plainAttrs_list PySem.F.slot_list_pop PySem.F.type_list_pop mt_pop ho hbase hline) fun σ H Q ⟨W, F, S, k, pp⟩ => ?_
  obtain ⟨cs, m, e1, e2, p1⟩ := onDeal_of (Post := fun r => PostE X.K E W F σ r Q) (fun z => z) pp
  obtain ⟨a1, a2, a3, a4⟩ := k.dealAt e1 e2
  cases e3 : cs[cs.length - 1]? with
  | none => rw [e3] at p1; exact p1.elim
  | some c =>
    simp only [e3] at p1
    refine tD0_of a1 a3 ⟨.inl ⟨rfl, _, .inl (.inl a4)⟩, W.dq, cs.map V.int, .int c, rfl, rfl, a4, by rw [List.length_map, List.getElem?_map, e3]; rfl, ?_⟩
    refine p1 _ F _ (Same.refl _) (k.updDeal e2 ?_ ?_ fun b h1 h2 => upd_ne h2) (.int _)
    · rw [upd_ne a2]; exact a3
    · rw [upd_same, List.map_dropLast]
def appDeal (i : Nat) (f : M R) : M R := onDeal i fun _ _ => mb f fun r => onDeal i fun cs m => fun S => match r.d with
  | .int c => if cs.length < sizeLine then .ok (.val .non) { S with st := some (cs ++ [c], m) } else .bad
  | _ => .bad
theorem de_appDeal {x : Expr} (ho : PE X e (tD0 X.K i)) (hx : DE X E x f) (hbase : attributeBase e "append" X.env (eval e X.env) = eval e X.env := by rfl)
    (hfew : ((backTo pos (starEach [x] X.env)).all (fun x => !x.1) && (backToKw pos (keywordEach [] X.env)).all (fun x => x.1.isSome)
      && decide ([x].length + ([] : List Keyword).length + (if ([] : List Keyword).isEmpty then 0 else 1) < 30)) = true := by rfl)
    (hline : (apos.endLine == pos.line) = true := by rfl) (hs : starEach [x] X.env = (false, eval x X.env) :: starEach [] X.env := by rfl) (hplain : (backTo pos (starEach [] X.env)).any (·.1) = false := by rfl) :
    DE X E (.Call (.Attribute e "append" apos) [x] [] pos) (appDeal i f) := by
  refine PE.mono' (pe_bm PySem.F.plainAttrs_list PySem.F.slot_list_append PySem.F.type_list_append mt_append ho (pa_cons hx pa_nil hs) hbase hfew hline hs hplain) fun σ H Q ⟨W, F, S, k, pp⟩ => ?_
  obtain ⟨cs, m, e1, e2, p1⟩ := onDeal_of (Post := fun r => PostE X.K E W F σ r Q) (fun z => z) pp
  obtain ⟨a1, a2, a3, a4⟩ := k.dealAt e1 e2
  refine tD0_of a1 a3 ⟨.inl ⟨rfl, _, .inl (.inl a4)⟩, tD_bindE k p1 fun r1 S1 v1 F1 H1 s1 k1 rr1 p2 => ?_⟩
  obtain ⟨cs1, m1, e3, e4, p3⟩ := onDeal_of (Post := fun r => PostE X.K E W F1 σ r Q) (fun z => z) p2
  obtain ⟨b1, b2, b3, b4⟩ := k1.dealAt e3 e4
  cases hd : r1.d with
  | int c =>
    rw [hd] at rr1
    simp only [hd] at p3
    obtain rfl := rr1.intV
    by_cases hz : cs1.length < sizeLine
    · rw [if_pos hz] at p3
      refine ⟨W.dq, cs1.map V.int, .int c, rfl, rfl, b4, by rw [List.length_map]; exact hz, ?_⟩
      refine p3 _ F1 _ (Same.refl _) (k1.updDeal e4 ?_ ?_ fun b h1 h2 => upd_ne h2) .non
      · rw [upd_ne b2]; exact b3
      · rw [upd_same, List.map_append]; rfl
    · rw [if_neg hz] at p3; exact p3.elim
  | _ => simp only [hd] at p3; exact p3.elim
def setDeal (i : Nat) (f : M R) : M Fl := mb f fun r => onDeal i fun cs m => fun S => match r.d with
  | .int c => .ok .nx { S with st := some (cs, c) }
  | _ => .bad
theorem ds_setDeal {x b : Expr} (hx : DE X E x f) (ho : PE X e (tVar i)) (hb : PE X b (tC (.int 1)))
    (ha : ∀ v, assign (.Subscript e b pos) X.env v = (do
      let ov ← holding [v] (eval e X.env)
      let iv ← holding [v, ov] (eval b X.env)
      standAt pos
      holding [v, ov, iv] (setItem ov iv v)
      release [v, ov, iv] []) := by intro _; rfl)
    (hs : swapsWithSole [.Subscript e b pos] x pos2.line X.env = pure false := by rfl) (hw : swappedStores [.Subscript e b pos] x X.env = pure none := by rfl)
    (h1 : (assignEach [.Subscript e b pos] X.env).map (·.2) = [assign (.Subscript e b pos) X.env] := by rfl) : DS X E (.Assign [.Subscript e b pos] x pos2) (setDeal i f) := by
  refine PS.mono' (ps_asg hx (pg_sub ho hb set_list ha) hs hw h1) fun D σ H ⟨W, F, S, k, pp⟩ => ?_
  refine tD_bindS k pp fun r S1 v F1 H1 s1 k1 rr p1 => ?_
  obtain ⟨cs, m, e1, e2, p2⟩ := onDeal_of (Post := fun r => PostS X.K E W F1 D r) (fun z => z) p1
  obtain ⟨a1, a2, a3, a4⟩ := k1.dealAt e1 e2
  cases hd : r.d with
  | int c =>
    simp only [hd] at p2
    have hv : v = .int c := by
      cases r with
      | val d =>
        have hd' : d = .int c := hd
        subst hd'
        exact Rep.intV rr
      | own o => cases o <;> cases hd
    subst hv
    refine ⟨_, a1, W.dp, _, 1, 1, rfl, rfl, a3, rfl, ?_⟩
    refine p2 σ F1 _ (Same.refl _) (k1.updDeal e2 upd_same ?_ fun b h1 h2 => upd_ne h1)
    rw [upd_ne a2.symm]; exact a4
  | _ => simp only [hd] at p2; exact p2.elim
end

/-! ### a, b, c = e1, e2, e3 -/
section
variable {X : Cx} {E : WX}
def parS3 (i j l : Nat) (f g h : M R) : M Fl := mb f fun r1 => mb g fun r2 => mb h fun r3 => mb (put i (.val r1.d)) fun _ => mb (put j (.val r2.d)) fun _ => mb (put l (.val r3.d)) fun _ => mp .nx
theorem ds_par3 {i j l : Nat} {x y z : Str} {a b c : Expr} {f g h : M R} {px py pz pt pos : Pos} {kt k2 pt2} (hc : X.calm = true) (hN : X.N.Nodup) (hi : X.N[i]? = some x) (hj : X.N[j]? = some y) (hl : X.N[l]? = some z) (hij : i ≠ j) (hil : i ≠ l) (hjl : j ≠ l)
    (hx : X.env.scope.names.lookup x = some .local) (hy : X.env.scope.names.lookup y = some .local) (hz : X.env.scope.names.lookup z = some .local) (ha : DE X E a f) (hb : DE X E b g) (hcc : DE X E c h)
    (hw : swappedStores [.Tuple [.Name x px, .Name y py, .Name z pz] kt pt] (.Tuple [a, b, c] k2 pt2) X.env = pure (some [x, y, z]) := by rfl)
    (h1 : starEach [a, b, c] X.env = (false, eval a X.env) :: starEach [b, c] X.env := by rfl) (h2 : starEach [b, c] X.env = (false, eval b X.env) :: starEach [c] X.env := by rfl) (h3 : starEach [c] X.env = (false, eval c X.env) :: starEach [] X.env := by rfl)
    (hs : swapsWithSole [.Tuple [.Name x px, .Name y py, .Name z pz] kt pt] (.Tuple [a, b, c] k2 pt2) pos.line X.env = pure false := by rfl) :
    DS X E (.Assign [.Tuple [.Name x px, .Name y py, .Name z pz] kt pt] (.Tuple [a, b, c] k2 pt2) pos) (parS3 i j l f g h) := by
  refine PS.mono' (ps_par3 hc hN hi hj hl hij hil hjl hx hy hz (pa_cons ha (pa_cons hb (pa_cons hcc pa_nil h3) h2) h1) hw hs) fun D σ H ⟨W, F, S, k, p⟩ => ?_
  refine tD_bindS k p fun r1 S1 v1 F1 H1 s1 k1 rr1 p1 => ?_
  obtain ⟨F1', s1', k1', rr1'⟩ := rr1.freeze k1
  refine tD_bindS k1' (PostS.mono s1' p1) fun r2 S2 v2 F2 H2 s2 k2 rr2 p2 => ?_
  obtain ⟨F2', s2', k2', rr2'⟩ := rr2.freeze k2
  refine tD_bindS k2' (PostS.mono s2' p2) fun r3 S3 v3 F3 H3 s3 k3 rr3 p3 => ?_
  obtain ⟨F3', s3', k3', rr3'⟩ := rr3.freeze k3
  refine ⟨v1, v2, v3, rfl, ?_⟩
  have p4 := PostS.mono s3' p3
  unfold mb put at p4
  have q1 : Rep X.K W.dp F3' r1.d v1 := rr1'.mono (((s2.trans s2').trans s3).trans s3')
  have q2 : Rep X.K W.dp F3' r2.d v2 := rr2'.mono (s3.trans s3')
  by_cases hi : i < S3.sl.length
  · rw [if_pos hi] at p4
    exact put2_ok (k3'.store (r := .val r1.d) hi q1) (d1 := r2.d) (d2 := r3.d) q2 rr3' p4
  · rw [if_neg hi] at p4; exact p4.elim
end

/-! ### tuple * int -/
def rRepTW (K : PySem.W.Frag) : R2 := fun x y H Q => ∃ l k xs, x = .ref l ∧ y = .int k ∧ SqT K H l xs ∧ xs ≠ [] ∧ 2 ≤ k ∧ k ≤ 1000000 ∧ xs.length * k.toNat ≤ 1000000 ∧ ∀ p, H p = none → Q (.ref p) (upd H p (.tup (List.replicate k.toNat xs).flatten))
theorem op_repTW {X : Cx} : OpR X (binaryOp .Mult) (rRepTW X.K) := by
  intro pins s σ H x y v u Q I rx ry h
  obtain ⟨l, k, xs, rfl, rfl, hT, hne, h1, h2, hz, q⟩ := h
  cases rx
  obtain ⟨t, rfl⟩ := ry
  obtain ⟨its, r, ⟨⟨cls, dd, data, sl⟩, ho, hc, n, hd⟩, hs⟩ := I.tuple hT
  simp only at hc hd
  subst hc hd
  have hle : its.length = xs.length := r.length.symm
  have hn : its ≠ [] := fun e => hne (by
    rw [e] at hle
    exact List.eq_nil_of_length_eq_zero hle.symm)
  have hi : its.toArray.isEmpty = false := by
    cases its with
    | nil => exact absurd rfl hn
    | cons a b => rfl
  have hsz0 : its.toArray.size = xs.length := by rw [List.size_toArray, hle]
  have hm : ((its.toArray.size : Nat) : Int) * k ≤ 1000000 := by
    rw [hsz0]
    have e1 : ((xs.length : Nat) : Int) * k = ((xs.length * k.toNat : Nat) : Int) := by
      rw [Int.natCast_mul, Int.toNat_of_nonneg (by omega)]
    rw [e1]
    omega
  have hz' : k.toNat * xs.length ≤ 1000000 := by rw [Nat.mul_comm]; exact hz
  have flen : (List.replicate k.toNat its).flatten.length ≤ sizeLine := by
    rw [PyProof.Rows.lm_len_rep_flat, hle, sizeLine_eq]
    omega
  have c0 : (decide (k < -(2 ^ 63)) || decide (k ≥ 2 ^ 63)) = false := by
    rw [decide_eq_false (by omega), decide_eq_false (by omega)] <;> rfl
  have c1 : (its.toArray.isEmpty || k == 1) = false := by
    rw [hi, Bool.false_or]
    exact beq_eq_false_iff_ne.mpr (by omega)
  have c2 : (decide (k ≤ 0) || its.toArray.isEmpty) = false := by
    rw [hi, Bool.or_false]
    exact decide_eq_false (by omega)
  have c4 : Builtin.Tuple.tupleTooMany (((its.toArray.size : Nat) : Int) * k) = false := by
    unfold Builtin.Tuple.tupleTooMany
    rw [sizeLine_eq]
    exact decide_eq_false (by omega)
  refine wpAny_binaryOp_repeat_ref (T := "tuple") (U := "int") (by decide) ⟨_, ho, rfl⟩ (fun s' => typeIs_int s' k t) noFill_tuple_mul F.fills_int_mul F.slot_int_rmul repeat_tuple F.slot_int_index.lookup
    (call_meets F.slot_int_rmul (typeIs_int s k t) F.entry_int_rmul (F.args_int_rmul_2 _ _) (int_rmul_tuple k t l its.toArray n dd sl)
      ⟨ho, rfl, ⟨_, ho, rfl⟩, call_meets F.slot_tuple_mul ⟨_, ho, rfl⟩ F.entry_tuple_mul (F.args_tuple_mul_2 _ _) (tuple_mulW l its.toArray n dd sl k t c0 c1 c2 (by omega) c4 (by rw [size_rep, List.size_toArray]; exact flen)) ⟨ho, ?_⟩⟩)
  rw [size_rep]
  refine ⟨.ref s.heap.objs.size, _, I.laid (t' := s.toks) (o := .tup (List.replicate k.toNat xs).flatten) (fun b ob q => Heap.get?_push_of_some _ q) (Nat.le_refl _) ?_, rfl, q _ (I.hok.fresh (Nat.le_refl _))⟩
  exact ⟨by rw [PyProof.Rows.lm_len_rep_flat, sizeLine_eq]; omega, _, r.rep k.toNat, IsTup.new _ _⟩
/-- times, a tuple so many times too -/
def mulTD : D → D → Option R
  | .tup a, .int n => if 0 < a.length ∧ 2 ≤ n ∧ n ≤ 1000000 ∧ a.length * n.toNat ≤ 1000000 then some (.val (.tup (List.replicate n.toNat a).flatten)) else none
  | x, y => mulD x y
def rMulTD (K : PySem.W.Frag) : R2 := fun x y H Q => rRepTW K x y H Q ∨ rMulD x y H Q
theorem op_mulTD {X : Cx} : OpR X (binaryOp .Mult) (rMulTD X.K) := OpR.or op_repTW op_mulD
theorem mulTD_ok {K : PySem.W.Frag} : OpD K mulTD (rMulTD K) := by
  intro W F S σ H d1 d2 x y res Q k r1 r2 e q
  by_cases ht : ∃ a n, d1 = .tup a ∧ d2 = .int n
  · obtain ⟨a, n, rfl, rfl⟩ := ht
    obtain ⟨hz, rfl⟩ := ifs (show (if 0 < a.length ∧ 2 ≤ n ∧ n ≤ 1000000 ∧ a.length * n.toNat ≤ 1000000 then some (R.val (.tup (List.replicate n.toNat a).flatten)) else none) = some res from e)
    obtain rfl := r2.intV
    obtain ⟨p1, vs, rfl, h1, s1⟩ := r1.tupV
    refine .inl ⟨p1, n, vs, rfl, rfl, Same.seqT k.fh h1, fun z => ?_, hz.2.1, hz.2.2.1, by rw [← s1.length]; exact hz.2.2.2, fun p hp => ?_⟩
    · subst z
      have := s1.length
      rw [List.length_nil] at this
      omega
    · obtain ⟨sF, k2⟩ := k.newF (o := .tup (List.replicate n.toNat vs).flatten) hp
      exact q _ _ _ sF k2 (.tup (.inl (.inl upd_same)) ((s1.rep _).mono sF))
  · have e' : mulD d1 d2 = some res := by
      rw [← e]
      unfold mulTD
      split
      · exact absurd ⟨_, _, rfl, rfl⟩ ht
      · rfl
    exact .inr (mulD_ok W F S σ H d1 d2 x y res Q k r1 r2 e' q)
end DD

end
section
set_option Elab.async false
set_option Elab.async false
set_option linter.all false
set_option maxRecDepth 100000
set_option maxHeartbeats 2000000
set_option autoImplicit false
namespace DD
open PySem PySem.Spec PyProof.Rows L2

/-! ### the def that makes the deal -/
def dealM (g1 g2 g3 : M Fl) (fC fM : M R) (S : Sta) : Option (List Int × Int) := match seqS g1 (seqS g2 g3) S with
  | .ok .nx S1 => (match fC S1 with
    | .ok (.own (.lst ds)) S2 => (match fM S2 with
      | .ok (.val (.int m)) _ => (allInts ds).map fun cs => (cs, m)
      | _ => none)
    | _ => none)
  | _ => none
def tDeal (K : PySem.W.Frag) (g1 g2 g3 : M Fl) (fC fM : M R) : TS := fun D σ H => ∃ W F S, Ok K W F S σ H ∧ ∃ cs m, dealM g1 g2 g3 fC fM S = some (cs, m) ∧
  ∀ H' dp dq, Same W.G H' → W.G dp = none → W.G dq = none → dp ≠ dq → H' dp = some (.lst [.ref dq, .int m]) → H' dq = some (.lst (cs.map V.int)) → D.rt (.ref dp) H'
section
variable {X : Cx}
theorem seqS_nx {g h : M Fl} {S S' : Sta} (e : seqS g h S = .ok .nx S') : ∃ S1, g S = .ok .nx S1 ∧ h S1 = .ok .nx S' := by
  unfold seqS mb at e
  cases e1 : g S with
  | ok fl S1 =>
    rw [e1] at e
    cases fl with
    | nx => exact ⟨S1, rfl, e⟩
    | ret r => cases e
    | brk => cases e
    | cnt => cases e
  | exc x S1 => rw [e1] at e; cases e
  | bad => rw [e1] at e; cases e
theorem dss_deal {s1 s2 s3 : Stmt} {eC eM : Expr} {g1 g2 g3 : M Fl} {fC fM : M R} {pos lpos : Pos} (h1 : DS X noE s1 g1) (h2 : DS X noE s2 g2) (h3 : DS X noE s3 g3) (hC : DE X noE eC fC) (hM : DE X noE eM fM)
    (hs : starEach [eC, eM] X.env = (false, eval eC X.env) :: starEach [eM] X.env := by rfl) (hs2 : starEach [eM] X.env = (false, eval eM X.env) :: starEach [] X.env := by rfl) :
    PSs X [s1, s2, s3, .Return (some (.List [eC, eM] lpos)) pos] (tDeal X.K g1 g2 g3 fC fM) := by
  refine PSs.mono' (pss_cons h1 (pss_cons h2 (pss_cons h3 (pss_one (ps_ret (pe_lst (pa_cons hC (pa_cons hM pa_nil hs2) hs))))))) fun D σ H ⟨W, F, S, k, cs, m, e, q⟩ => ?_
  unfold dealM at e
  cases e0 : seqS g1 (seqS g2 g3) S with
  | exc x S1 => rw [e0] at e; cases e
  | bad => rw [e0] at e; cases e
  | ok fl S3 =>
    rw [e0] at e
    cases fl with
    | nx =>
      obtain ⟨S1, e1, e12⟩ := seqS_nx e0
      obtain ⟨S2, e2, e3⟩ := seqS_nx e12
      refine ⟨W, F, S, k, ?_⟩
      rw [e1]
      intro σ1 F1 H1 t1 k1
      refine ⟨W, F1, S1, k1, ?_⟩
      rw [e2]
      intro σ2 F2 H2 t2 k2
      refine ⟨W, F2, S2, k2, ?_⟩
      rw [e3]
      intro σ3 F3 H3 t3 k3
      refine ⟨W, F3, S3, k3, ?_⟩
      simp only at e
      cases e4 : fC S3 with
      | exc x S4 => rw [e4] at e; cases e
      | bad => rw [e4] at e; cases e
      | ok r S4 =>
        rw [e4] at e
        cases r with
        | val d => cases e
        | own o =>
          cases o with
          | lst ds =>
            intro v F4 H4 t4 k4 rr
            obtain ⟨dq, ho, rfl, A⟩ := k4.aside rr.1 rr.2
            refine ⟨W.frame F4 dq ho, F4, S4, A.frame, ?_⟩
            simp only at e
            cases e5 : fM S4 with
            | exc x S5 => rw [e5] at e; cases e
            | bad => rw [e5] at e; cases e
            | ok r S5 =>
              rw [e5] at e
              cases r with
              | own o => cases e
              | val d =>
                cases d with
                | int m' =>
                  obtain ⟨cs', e6, e7⟩ := Option.map_eq_some_iff.mp (show (allInts ds).map (fun cs => (cs, m')) = some (cs, m) from e)
                  cases e7
                  intro v5 F5 H5 t5 k5 rr5
                  obtain rfl := Rep.intV (show Rep X.K _ F5 (.int m) v5 from rr5)
                  have A5 := A.back k5
                  obtain ⟨vs, rfl, rs⟩ := A5.r
                  obtain rfl := allInts_of e6
                  obtain rfl := rs.intsV
                  refine ⟨by show 2 ≤ sizeLine; decide, fun p hp => ?_⟩
                  have np : p ≠ dq := fun z => by
                    have := A5.h
                    rw [← z, hp] at this
                    cases this
                  refine q _ p dq ?_ ?_ A5.g np upd_same ((upd_ne np.symm).trans A5.h)
                  · intro b u eb
                    have := A5.k.gh b u eb
                    rw [upd_ne (ne_of_none this hp)]
                    exact this
                  · exact A5.k.gh.free hp
                | _ => cases e
          | _ => cases e
    | _ => cases e
end
def spDeal (K : PySem.W.Frag) (dO : List Int → Int → Option (List Int × Int)) : Sp := fun vs H Q E => ∃ a ns salt cs m, vs = [.ref a, .int salt] ∧ SqL K H a (ns.map V.int) ∧ dO ns salt = some (cs, m) ∧
  ∀ H' dp dq, Same H H' → H dp = none → H dq = none → dp ≠ dq → H' dp = some (.lst [.ref dq, .int m]) → H' dq = some (.lst (cs.map V.int)) → Q (.ref dp) H'
def only (a : Addr) (H : Hp) : Hp := fun b => if b = a then H b else none
theorem only_same {a : Addr} {H : Hp} : Same (only a H) H := fun b u e => by
  unfold only at e
  split at e
  · exact e
  · cases e
theorem only_sq {K : PySem.W.Frag} {a : Addr} {H : Hp} {xs : List V} (h : SqL K H a xs) : SqL K (only a H) a xs := by
  have e : only a H a = H a := by unfold only; rw [if_pos rfl]
  rcases h with (h | ⟨o, h⟩) | h
  · exact .inl (.inl (e.trans h))
  · exact .inl (.inr ⟨o, e.trans h⟩)
  · exact .inr h
section
variable {P : Program} {w : World} {K : PySem.W.Frag} {mg : Str → Option Value} {base : Heap} {x qual : Str} {params : Arguments} {body : List Stmt} {scope : Scope} {f : Addr} {fd : FuncData}
theorem deal_ok {N ps : List Str} {k : Nat} {g1 g2 g3 : M Fl} {fC fM : M R} (F : FunD K x qual params body scope [] [] f fd) (Sc : FnScope N ps scope) (hp : ps.length = 2)
    (hb : ∀ (cdv : Value) (A : Around) (outer : List Env) (s : Shared) (H : Hp) (E : XK), Room k (A.deeper (envOfC qual scope s.heap.objs.size f cdv)) → PSs (cxOf CX0 P w K mg base N qual scope f cdv A outer s H E).nox body (tDeal K g1 g2 g3 fC fM)) :
    FnOk P w K mg base CX0 (k + 1) f fd ps (spDeal K fun ns salt => dealM g1 g2 g3 fC fM (initS N.length [.scr ns, .int salt] none)) := by
  refine F.ok Sc (fun vs H Q E h => ?_) (fun cdv A outer s H vs Q E hr h => ⟨tDeal K g1 g2 g3 fC fM, (hb cdv A outer s H E hr).nox, ?_⟩)
  · obtain ⟨_, _, _, _, _, rfl, _⟩ := h
    exact hp.symm
  · obtain ⟨a, ns, salt, cs, m, rfl, hS, e, q⟩ := h
    have k0 : Ok K ⟨0, 0, hide none 0 0 H, only a H⟩ (only a H) (initS N.length [.scr ns, .int salt] none) (L2.start N [.ref a, .int salt]) H := start_ok only_same trivial (.cons (.scr (only_sq hS)) (.cons (.int _) .nil))
    refine ⟨_, _, _, k0, cs, m, e, fun H' dp dq s1 n1 n2 n3 h1 h2 => ?_⟩
    have eh : hide none 0 0 H = H := by funext b; unfold hide; rw [if_neg]; rintro ⟨z, _⟩; exact z rfl
    have s1' : Same (hide none 0 0 H) H' := s1
    have n1' : hide none 0 0 H dp = none := n1
    have n2' : hide none 0 0 H dq = none := n2
    rw [eh] at s1' n1' n2'
    exact q H' dp dq s1' n1' n2' n3 h1 h2
/-- the def that makes the deal, at level k -/
def DealCal (P : Program) (w : World) (K : PySem.W.Frag) (mg : Str → Option Value) (base : Heap) (k : Nat) (dO : List Int → Int → Option (List Int × Int)) : Prop :=
  ∃ fd ps, ps.length = 2 ∧ mg "_law_deal" = some (.ref (He.ga K "_law_deal")) ∧ PySem.W.keepIn K (.ref (He.ga K "_law_deal")) = true ∧ Binds K fd ps [] ∧ FnOk P w K mg base CX0 k (He.ga K "_law_deal") fd ps (spDeal K dO)
def spLaw (K : PySem.W.Frag) (n : Nat) : Sp := fun vs H Q _ => ∃ (a : Addr) (ns : List Int), vs = [.ref a] ∧ SqL K H a (ns.map V.int) ∧ ns.length ≤ n ∧ ∀ H', Q (.bl true) H'
def lawS (N iD : Nat) (ns cs : List Int) (m : Int) : Sta := ⟨(initS N [.scr ns] none).sl.set iD (.val .deal), some (cs, m)⟩
def tLaw (K : PySem.W.Frag) (dO : List Int → Int → Option (List Int × Int)) (iD : Nat) (salt : Int) (g : M Fl) : TS := tSeq (tAsg (tCall (spDeal K dO) [] E0 (tCons (tVar 0) (tCons (tC (.int salt)) tNil))) (gName iD)) (tS K noE g)
theorem dss_law {X : Cx} {k iD : Nat} {salt : Int} {g : M Fl} {dO : List Int → Int → Option (List Int × Int)} {rest : List Stmt} {p1 p2 p3 p4 p5 p6 : Pos} {j : Nat} (C : DealCal X.prog X.w X.K X.mg X.base k dO) (hr : Room k X.A) (hg : Gl X "_law_deal")
    (hN : X.N.Nodup) (hD : X.N[iD]? = some (Str.ofString "deal")) (hx : Loc X.env.scope "deal") (h0 : PE X (.Name "script" p3) (tVar 0))
    (hf : X.fn "deal" = true ∨ X.env.scope.names.lookup (Str.ofString "deal") = some .local)
    (hs : swapsWith (.Call (.Name "_law_deal" p2) [.Name "script" p3, .Constant (.int salt) j p4] [] p5) (some (.Name "deal" p1)) p6.line X.env = pure false := by rfl)
    (he : starEach [.Name "script" p3, .Constant (.int salt) j p4] X.env = (false, eval (.Name "script" p3) X.env) :: starEach [.Constant (.int salt) j p4] X.env := by rfl)
    (he2 : starEach [.Constant (.int salt) j p4] X.env = (false, eval (.Constant (.int salt) j p4) X.env) :: starEach [] X.env := by rfl)
    (hpl : (backTo p5 (starEach [.Constant (.int salt) j p4] X.env)).any (·.1) = false := by rfl)
    (hrest : DSs X noE rest g) : PSs X (.Assign [.Name "deal" p1] (.Call (.Name "_law_deal" p2) [.Name "script" p3, .Constant (.int salt) j p4] [] p5) p6 :: rest) (tLaw X.K dO iD salt g) := by
  obtain ⟨fd, ps, hl, hm, hk, hb, F⟩ := C
  exact pss_cons (ps_set hN hD hx (pe_call F hr hg hm hk hb .nil pass0 (pa_cons h0 (pa_cons pe_int pa_nil he2) he) (by decide) he hpl) hs hf) hrest
theorem law_ok {N : List Str} {k iD n : Nat} {salt : Int} {g : M Fl} {dO : List Int → Int → Option (List Int × Int)} (F : FunD K x qual params body scope [] [] f fd) (Sc : FnScope N ["script"] scope)
    (hb : ∀ (cdv : Value) (A : Around) (outer : List Env) (s : Shared) (H : Hp) (E : XK), Room k (A.deeper (envOfC qual scope s.heap.objs.size f cdv)) → PSs (cxOf CX0 P w K mg base N qual scope f cdv A outer s H E).nox body (tLaw K dO iD salt g))
    (hN : 0 < N.length) (h0 : iD ≠ 0)
    (hlaw : ∀ ns : List Int, ns.length ≤ n → ∃ cs m S', dO ns salt = some (cs, m) ∧ g (lawS N.length iD ns cs m) = .ok (.ret (.val (.bl true))) S') :
    FnOk P w K mg base CX0 (k + 1) f fd ["script"] (spLaw K n) := by
  refine F.ok Sc (fun vs H Q E h => ?_) (fun cdv A outer s H vs Q E hr h => ⟨tLaw K dO iD salt g, (hb cdv A outer s H E hr).nox, ?_⟩)
  · obtain ⟨_, _, rfl, _⟩ := h
    rfl
  · obtain ⟨a, ns, rfl, hS, hl, q⟩ := h
    obtain ⟨cs, m, S', e1, e2⟩ := hlaw ns hl
    have hσ : (L2.start N [.ref a])[0]? = some (some (.ref a)) := rfl
    refine ⟨_, hσ, a, ns, salt, cs, m, rfl, hS, e1, fun H' dp dq s1 n1 n2 n3 h1 h2 => ?_⟩
    have k0 : Ok K ⟨0, 0, hide none 0 0 H, only a H⟩ (only a H) (initS N.length [.scr ns] none) (L2.start N [.ref a]) H := start_ok only_same trivial (.cons (.scr (only_sq hS)) .nil)
    have fnone : ∀ b, H b = none → only a H b = none := fun b e => by
      unfold only
      split
      · exact e
      · rfl
    have k1 : Ok K ⟨dp, dq, fun _ => none, only a H⟩ (only a H) ⟨(initS N.length [.scr ns] none).sl, some (cs, m)⟩ (L2.start N [.ref a]) H' :=
      { fh := only_same.trans s1
        gh := fun b u e => by cases e
        ff := Same.refl _
        gf := fun b o e => by cases e
        dl := ⟨n3, fnone _ n1, fnone _ n2, h1, h2⟩
        dg := fun _ => ⟨rfl, rfl⟩
        sl := fun i s e => by
          have y := k0.sl i s e
          cases s with
          | un => trivial
          | val d =>
            obtain ⟨v, z, r⟩ := y
            refine ⟨v, z, ?_⟩
            have key : ∀ d, (initS N.length [.scr ns] none).sl[i]? = some (.val d) → d = .scr ns := fun d e => by
              have e' : ([D.scr ns].map Slot.val ++ List.replicate (N.length - 1) Slot.un)[i]? = some (.val d) := e
              cases i with
              | zero => cases e'; rfl
              | succ i =>
                rw [List.map_cons, List.map_nil, List.cons_append, List.nil_append, List.getElem?_cons_succ] at e'
                have := List.mem_of_getElem? e'
                rw [List.mem_replicate] at this
                cases this.2
            obtain rfl := key d e
            cases r with
            | scr h => exact .scr h
          | own o =>
            have e' : ([D.scr ns].map Slot.val ++ List.replicate (N.length - 1) Slot.un)[i]? = some (.own o) := e
            cases i with
            | zero => cases e'
            | succ i =>
              rw [List.map_cons, List.map_nil, List.cons_append, List.nil_append, List.getElem?_cons_succ] at e'
              have := List.mem_of_getElem? e'
              rw [List.mem_replicate] at this
              cases this.2
        ap := fun i j o o' v n e => by
          have e' : ([D.scr ns].map Slot.val ++ List.replicate (N.length - 1) Slot.un)[i]? = some (.own o) := e
          cases i with
          | zero => cases e'
          | succ i =>
            rw [List.map_cons, List.map_nil, List.cons_append, List.nil_append, List.getElem?_cons_succ] at e'
            have := List.mem_of_getElem? e'
            rw [List.mem_replicate] at this
            cases this.2
        len := k0.len }
    by_cases hi : iD < N.length
    · have hi' : iD < (initS N.length [.scr ns] none).sl.length := by
        have := k0.len
        rw [this]
        unfold L2.start
        simp
        omega
      have k2 := k1.store (i := iD) (r := .val .deal) (v := .ref dp) hi' .deal
      refine ⟨_, only a H, _, k2, ?_⟩
      have e3 : g ⟨(initS N.length [.scr ns] none).sl.set iD (R.val .deal).slot, some (cs, m)⟩ = .ok (.ret (.val (.bl true))) S' := e2
      show PostS K noE _ _ _ (g ⟨(initS N.length [.scr ns] none).sl.set iD (R.val .deal).slot, some (cs, m)⟩)
      rw [e3]
      intro v σ' F' H2 s2 k3 rr
      obtain rfl := Rep.blV (show Rep K _ F' (.bl true) v from rr)
      exact q H2
    · -- the slot does not stand: the store changes nothing that is read
      have k2 : Ok K ⟨dp, dq, fun _ => none, only a H⟩ (only a H) ⟨(initS N.length [.scr ns] none).sl.set iD (.val .deal), some (cs, m)⟩ ((L2.start N [.ref a]).set iD (some (.ref dp))) H' := by
        have hl1 : (initS N.length [.scr ns] none).sl.length ≤ iD := by
          rw [k0.len]; unfold L2.start; simp; omega
        have hl2 : (L2.start N [.ref a]).length ≤ iD := by rw [← k0.len]; exact hl1
        rw [List.set_eq_of_length_le hl1, List.set_eq_of_length_le hl2]
        exact k1
      refine ⟨_, only a H, _, k2, ?_⟩
      have e3 : g ⟨(initS N.length [.scr ns] none).sl.set iD (.val .deal), some (cs, m)⟩ = .ok (.ret (.val (.bl true))) S' := e2
      rw [e3]
      intro v σ' F' H2 s2 k3 rr
      obtain rfl := Rep.blV (show Rep K _ F' (.bl true) v from rr)
      exact q H2
end
end DD

end
section
set_option Elab.async false
set_option Elab.async false
set_option linter.all false
set_option maxRecDepth 100000
set_option maxHeartbeats 2000000
set_option autoImplicit false
namespace DD
open PySem PySem.Spec PyProof.Rows L2

/-! ### range with a step; what walks, of any kind -/
def rangeI3 (g : M (List D)) : M (List D) := mb g fun ds => match ds with
  | [.int i, .int j, .int c] => if c ≠ 0 ∧ c.natAbs < 1073741824 ∧ Builtin.Range.small i j c = true ∧ 0 ≤ Builtin.Range.rangeSize i j c then mp ((List.range (Builtin.Range.rangeSize i j c).toNat).map fun (t : Nat) => D.int (i + (t : Int) * c)) else fun _ => .bad
  | _ => fun _ => .bad
section
variable {X : Cx} {E : WX} {tg e e2 e3 : Expr} {ga : M (List D)} {p pos : Pos} {f : M R}
theorem yields_range3 {K : PySem.W.Frag} {W : Wd} {F : Hp} {lo c : Int} {n : Nat} : Yields K W F (Itc lo c n) ((List.range n).map fun (i : Nat) => D.int (lo + (i : Int) * c)) := by
  refine ⟨fun _ => True, YFn fun i => .int (lo + (i : Nat) * c), by simpa using walk_rangeC, fun _ _ => trivial, fun i H x H' hi _ y => .inl ⟨y.1, .int (lo + (i : Int) * c), ?_, ?_⟩⟩
  · rw [List.getElem?_map, List.getElem?_range (by simpa using hi)]; rfl
  · rw [y.2]; exact .int _
theorem di_range3 (hg : Gl X "range") (hm : X.mg "range" = none) (ha : DA X E [e, e2, e3] ga) (hs : starEach [e, e2, e3] X.env = (false, eval e X.env) :: starEach [e2, e3] X.env := by rfl) (hpl : (backTo pos (starEach [e2, e3] X.env)).any (·.1) = false := by rfl) :
    DI X E tg (.Call (.Name "range" p) [e, e2, e3] [] pos) (rangeI3 ga) := by
  refine PI.mono' (pi_range3 hg hm ha hs hpl) fun σ H R ⟨W, F, S, k, p⟩ => ?_
  refine tA_bindI k p fun ds S1 vs F1 H1 s1 k1 rr p1 => ?_
  match ds, rr, p1 with
  | [.int i, .int j, .int c], rr, p1 =>
    cases rr with
    | cons r1 rs =>
      obtain ⟨v, w, rfl, r2, r3⟩ := rs.two
      obtain rfl := r1.intV
      obtain rfl := r2.intV
      obtain rfl := r3.intV
      by_cases hz : c ≠ 0 ∧ c.natAbs < 1073741824 ∧ Builtin.Range.small i j c = true ∧ 0 ≤ Builtin.Range.rangeSize i j c
      · have p2 : PostI X.K E W F1 σ (mp ((List.range (Builtin.Range.rangeSize i j c).toNat).map fun (t : Nat) => D.int (i + (t : Int) * c)) S1) R := by
          have e : (if c ≠ 0 ∧ c.natAbs < 1073741824 ∧ Builtin.Range.small i j c = true ∧ 0 ≤ Builtin.Range.rangeSize i j c then mp ((List.range (Builtin.Range.rangeSize i j c).toNat).map fun (t : Nat) => D.int (i + (t : Int) * c)) else fun _ => Res.bad) S1 = mp ((List.range (Builtin.Range.rangeSize i j c).toNat).map fun (t : Nat) => D.int (i + (t : Int) * c)) S1 := by rw [if_pos hz]
          rw [← e]
          exact p1
        exact ⟨i, j, c, _, rfl, ⟨hz.1, hz.2.1, hz.2.2.1, (Int.toNat_of_nonneg hz.2.2.2).symm⟩, p2 _ F1 H1 (Same.refl _) k1 yields_range3⟩
      · have p2 : PostI X.K E W F1 σ Res.bad R := by
          have e : (if c ≠ 0 ∧ c.natAbs < 1073741824 ∧ Builtin.Range.small i j c = true ∧ 0 ≤ Builtin.Range.rangeSize i j c then mp ((List.range (Builtin.Range.rangeSize i j c).toNat).map fun (t : Nat) => D.int (i + (t : Int) * c)) else fun _ => Res.bad) S1 = Res.bad := by rw [if_neg hz]
          rw [← e]
          exact p1
        exact p2.elim
/-- what a value walks over -/
def D.items : D → Option (List D)
  | .lst ds => some ds
  | .tup ds => some ds
  | .str z => some (signsD z)
  | _ => none
def anyI (f : M R) : M (List D) := mb f fun r => mo r.d.items
theorem di_any (he : DE X E e f) : DI X E tg e (anyI f) := by
  refine ⟨fun pins s σ H R I ⟨W, F, S, k, p⟩ => ?_⟩
  unfold anyI mb at p
  cases e1 : f S with
  | exc x S1 => rw [e1] at p; exact (di_list (tg := tg) he).run pins s σ H R I ⟨W, F, S, k, by unfold seqI mb; rw [e1]; exact p⟩
  | bad => rw [e1] at p; exact p.elim
  | ok r S1 =>
    rw [e1] at p
    simp only at p
    cases hd : r.d with
    | lst ds => exact (di_list (tg := tg) he).run pins s σ H R I ⟨W, F, S, k, by unfold seqI mb; rw [e1]; simp only [hd]; rw [hd] at p; exact p⟩
    | tup ds => exact (di_tup (tg := tg) he).run pins s σ H R I ⟨W, F, S, k, by unfold tupI mb; rw [e1]; simp only [hd]; rw [hd] at p; exact p⟩
    | str z => exact (di_str (tg := tg) he).run pins s σ H R I ⟨W, F, S, k, by unfold strI mb; rw [e1]; simp only [hd]; rw [hd] at p; exact p⟩
    | _ => rw [hd] at p; exact p.elim
def enumAI (g : M (List D)) : M (List D) := mb g fun ds => match ds with
  | [.lst a] => mp (enumFromD a)
  | [.tup a] => mp (enumFromD a)
  | _ => fun _ => .bad
theorem di_enumA {elts : List Expr} {kk : Nat} {tpos : Pos} (hg : Gl X "enumerate") (hm : X.mg "enumerate" = none) (ha : DA X E [e] ga) (hs : starEach [e] X.env = [(false, eval e X.env)] := by rfl) : DI X E (.Tuple elts kk tpos) (.Call (.Name "enumerate" p) [e] [] pos) (enumAI ga) := by
  refine ⟨fun pins s σ H R I ⟨W, F, S, k, pp⟩ => ?_⟩
  unfold enumAI mb at pp
  cases e1 : ga S with
  | exc x S1 => rw [e1] at pp; exact (di_enum hg hm ha hs).run pins s σ H R I ⟨W, F, S, k, by unfold enumI mb; rw [e1]; exact pp⟩
  | bad => rw [e1] at pp; exact pp.elim
  | ok ds S1 =>
    rw [e1] at pp
    match ds, e1, pp with
    | [.lst a], e1, pp => exact (di_enum hg hm ha hs).run pins s σ H R I ⟨W, F, S, k, by unfold enumI mb; rw [e1]; exact pp⟩
    | [.tup a], e1, pp => exact (di_enumT hg hm ha hs).run pins s σ H R I ⟨W, F, S, k, by unfold enumTI mb; rw [e1]; exact pp⟩
/-- a target that takes a tuple or a list apart -/
def D.parts : D → Option (List D)
  | .lst ds => some ds
  | .tup ds => some ds
  | _ => none
def tgA (n : Nat) (ts : List D → M Unit) : R → M Unit := fun r => match r.d.parts with
  | some ds => if ds.length = n then ts ds else fun _ => .bad
  | none => fun _ => .bad
theorem dg_any {es : List Expr} {k : Nat} {is : List Nat} {ts : List D → M Unit} {n : Nat} (hc : X.calm = true) (h : DGs X E es is ts) (hn : (assignEach es X.env).length = n := by rfl) (hst : (assignEach es X.env).findIdx? (·.1) = none := by rfl) : DG X E (.Tuple es k pos) is (tgA n ts) := by
  refine ⟨fun pins s σ H v u Q I ru ⟨W, F, S, r, kk, rr, p⟩ => ?_⟩
  unfold tgA at p
  cases hd : r.d with
  | lst ds => exact (dg_lst hc h hn hst).run pins s σ H v u Q I ru ⟨W, F, S, r, kk, rr, by unfold tgL; simp only [hd]; rw [hd] at p; exact p⟩
  | tup ds => exact (dg_tup hc h hn hst).run pins s σ H v u Q I ru ⟨W, F, S, r, kk, rr, by unfold tgT; simp only [hd]; rw [hd] at p; exact p⟩
  | _ => rw [hd] at p; exact p.elim
end
theorem Room.u65 {k : Nat} {A : Around} (r : Room k A) : A.units + 65 < cLine := by have := r.un; omega
/-! ### what stands at the top of the module -/
def Dfs (K : PySem.W.Frag) (x : Str) (st : Stmt) : Prop := ∃ fd, FunD K x x (defArgs st) (defBody st) (defScope st) [] [] (He.ga K x) fd
end DD

end
section
set_option Elab.async false
set_option Elab.async false
set_option linter.all false
set_option maxRecDepth 100000
set_option maxHeartbeats 2000000
set_option autoImplicit false
namespace DD
open PySem PySem.Spec PyProof.Rows L2
/-! ### op=, minus -/
def iaddD : D → D → Option R
  | .int i, .int j => some (.val (.int (i + j)))
  | .str a, .str b => if a.length + b.length ≤ sizeLine then some (.val (.str (a ++ b))) else none
  | _, _ => none
def rIaddD : R2 := fun x y H Q => (rI0 fun i j => .int (i + j)) x y H Q ∨ ∃ i j, x = .str i ∧ y = .str j ∧ i.length + j.length ≤ sizeLine ∧ Q (.str (i ++ j)) H
theorem iop_addD {X : Cx} : OpR X (inplaceOp .Add) rIaddD := OpR.or iop_add iop_add_str
theorem iaddD_ok {K : PySem.W.Frag} : OpD K iaddD rIaddD := by
  intro W F S σ H d1 d2 x y res Q k r1 r2 e q
  cases d1 with
  | int i =>
    cases d2 with
    | int j =>
      cases e
      obtain rfl := r1.intV
      obtain rfl := r2.intV
      exact .inl ⟨i, j, rfl, rfl, q _ F H (Same.refl _) k (.int _)⟩
    | _ => cases e
  | str i =>
    cases d2 with
    | str j =>
      obtain ⟨hz, rfl⟩ := ifs (show (if i.length + j.length ≤ sizeLine then some (R.val (.str (i ++ j))) else none) = some res from e)
      obtain rfl := r1.strV
      obtain rfl := r2.strV
      exact .inr ⟨i, j, rfl, rfl, hz, q _ F H (Same.refl _) k (.str _)⟩
    | _ => cases e
  | _ => cases e
def negD : D → Option R
  | .int i => some (.val (.int (-i)))
  | _ => none
theorem negD_ok {K : PySem.W.Frag} : UnD K negD (rU fun i => .int (-i)) := by
  intro W F S σ H d x res Q k r e q
  cases d with
  | int i =>
    cases e
    obtain rfl := r.intV
    exact ⟨i, rfl, q _ F H (Same.refl _) k (.int _)⟩
  | _ => cases e
end DD

end
section
set_option Elab.async false
set_option Elab.async false
set_option linter.all false
set_option maxRecDepth 100000
set_option maxHeartbeats 4000000
set_option autoImplicit false
namespace K80
open PySem PySem.Spec PyProof.Rows L2 DD
/-! what the defs do, printed by gen.py -/

def csG (G : Str → Addr) : List Addr := [G "Finding", G "LevelsAnswer", G "NamesAnswer", G "Web"]

-- slots of _law_deal: 0 script, 1 salt, 2 most, 3 cells, 4 mix, 5 cell

noncomputable def b_deal1 (G : Str → Addr) : M Fl := (setS 2 (bin mulTD (bin mulTD (bin mulTD (bin mulTD (bin mulTD (bin powD (mp (.val (.int 10))) (mp (.val (.int 64)))) (bin powD (mp (.val (.int 10))) (mp (.val (.int 64))))) (bin powD (mp (.val (.int 10))) (mp (.val (.int 64))))) (bin powD (mp (.val (.int 10))) (mp (.val (.int 64))))) (bin powD (mp (.val (.int 10))) (mp (.val (.int 64))))) (bin powD (mp (.val (.int 10))) (mp (.val (.int 64))))))

noncomputable def b_deal2 (G : Str → Addr) : M Fl := (parO 3 4 (compM [5] (anyI (slM slD (rd 0) (mp none) (oSome (mp (.val (.int 63)))))) (tgN 5) (mp true) (bin modD (lsM int1D (aCons (lsM absD (aCons (lsM int1D (aCons (rd 5) (mp []))) (mp []))) (mp []))) (rd 2))) (bin addD (mp (.val (.int 70001))) (bin mulTD (mp (.val (.int 7919))) (rd 1))))

noncomputable def b_deal3 (G : Str → Addr) : M Fl := (forS (anyI (rd 3)) (tgN 5) (setS 4 (bin modD (lsM int1D (aCons (bin addD (bin addD (bin mulTD (rd 4) (mp (.val (.int 69621)))) (bin modD (lsM int1D (aCons (rd 5) (mp []))) (mp (.val (.int 2147483563))))) (mp (.val (.int 23)))) (mp []))) (mp (.val (.int 2147483647))))))

noncomputable def b_dealC (G : Str → Addr) : M R := (una revD (compM [5] (anyI (rd 3)) (tgN 5) (tst (bin geD (rd 5) (bin powD (mp (.val (.int 10))) (mp (.val (.int 18)))))) (rd 5)))

noncomputable def b_dealM (G : Str → Addr) : M R := (rd 4)

noncomputable def dO (G : Str → Addr) : List Int → Int → Option (List Int × Int) := fun ns salt => dealM (b_deal1 G) (b_deal2 G) (b_deal3 G) (b_dealC G) (b_dealM G) (initS 6 [.scr ns, .int salt] none)

-- slots of _law_joined: 0 rows, 1 found, 2 row

noncomputable def b__law_joined (G : Str → Addr) : M Fl := (seqS (setS 1 (mkL (mp [])))
  (seqS (forS (anyI (rd 0)) (tgN 2) (setS 1 (bin addD (rd 1) (rd 2))))
  (retS (rdm 1))))

noncomputable def fn__law_joined (G : Str → Addr) : Fn := fnB 1 3 (b__law_joined G)

-- slots of _law_plain: 0 value

noncomputable def b__law_plain (G : Str → Addr) : M Fl := (seqS (ifS (tst (lsM (isiD (csG G)) (aCons (rd 0) (aCons (mp (.val (.adr (G "Finding")))) (mp []))))) (retS (mkT (aCons (mp (.val (.str "Finding"))) (aCons noM (aCons noM (mp [])))))) (mp .nx))
  (seqS (ifS (tst (lsM (isiD (csG G)) (aCons (rd 0) (aCons (mkT (aCons (mp (.val (.adr (G "NamesAnswer")))) (aCons (mp (.val (.adr (G "LevelsAnswer")))) (mp [])))) (mp []))))) (retS (mkT (aCons (iteM (tst (lsM (isiD (csG G)) (aCons (rd 0) (aCons (mp (.val (.adr (G "NamesAnswer")))) (mp []))))) (mp (.val (.str "NamesAnswer"))) (mp (.val (.str "LevelsAnswer")))) (aCons noM (aCons noM (aCons noM (mp []))))))) (mp .nx))
  (retS (iteM (tst (lsM (isiD (csG G)) (aCons (rd 0) (aCons (mp (.val (.adr (G "Web")))) (mp []))))) (mkT (aCons (mp (.val (.str "Web"))) (aCons noM (aCons noM (mp []))))) (rd 0)))))

noncomputable def fn__law_plain (G : Str → Addr) : Fn := fnB 1 1 (b__law_plain G)

-- slots of _law_is_kind: 0 told, 1 due

noncomputable def b__law_is_kind (G : Str → Addr) : M Fl := (seqS (ifS (tst (bin isD (rd 1) (mp (.val .non)))) (retS (bin isD (rd 0) (mp (.val .non)))) (mp .nx))
  (seqS (ifS (orT (tst (bin isD (rd 1) (mp (.val (.bl true))))) (tst (bin isD (rd 1) (mp (.val (.bl false)))))) (retS (iteM (tst (rd 1)) (bin isD (rd 0) (mp (.val (.bl true)))) (bin isD (rd 0) (mp (.val (.bl false)))))) (mp .nx))
  (seqS (ifS (tst (lsM (isiD (csG G)) (aCons (rd 1) (aCons (mp (.val (.ty "str"))) (mp []))))) (retS (andV (lsM (isiD (csG G)) (aCons (rd 0) (aCons (mp (.val (.ty "str"))) (mp [])))) (bin eqD (rd 0) (rd 1)))) (mp .nx))
  (retS (andV (lsM (isiD (csG G)) (aCons (rd 0) (aCons (mp (.val (.ty "int"))) (mp [])))) (andV (notV (lsM (isiD (csG G)) (aCons (rd 0) (aCons (mp (.val (.ty "bool"))) (mp []))))) (bin eqD (rd 0) (rd 1))))))))

noncomputable def fn__law_is_kind (G : Str → Addr) : Fn := fnB 2 2 (b__law_is_kind G)

-- slots of _law_same: 0 told, 1 due, 2 todo, 3 one, 4 other

noncomputable def b__law_same (G : Str → Addr) : M Fl := (seqS (setS 2 (mkL (aCons (mkT (aCons (rd 0) (aCons (rd 1) (mp [])))) (mp []))))
  (seqS (whileS (tst (bin gtD (lenV 2) (mp (.val (.int 0))))) (seqS (asgS (mutM 2 (mp []) popF) (tgA 2 (tgCons (tgN 3) (tgCons (tgN 4) tgNil))))
  (seqS (setS 3 (callM 1 (fn__law_plain G) (aCons (rd 3) (mp []))))
  (ifS (tst (lsM (isiD (csG G)) (aCons (rd 4) (aCons (mp (.val (.ty "tuple"))) (mp []))))) (seqS (ifS (orT (notT (tst (lsM (isiD (csG G)) (aCons (rd 3) (aCons (mp (.val (.ty "tuple"))) (mp [])))))) (tst (bin neD (lenV 3) (lenV 4)))) (retS (mp (.val (.bl false)))) (mp .nx))
  (setS 2 (bin addD (rd 2) (lsM lzD (aCons (rd 3) (aCons (rd 4) (mp []))))))) (ifS (orT (tst (lsM (isiD (csG G)) (aCons (rd 3) (aCons (mkT (aCons (mp (.val (.ty "tuple"))) (aCons (mp (.val (.ty "list"))) (aCons (mp (.val (.ty "dict"))) (mp []))))) (mp []))))) (notT (tst (callM 2 (fn__law_is_kind G) (aCons (rd 3) (aCons (rd 4) (mp []))))))) (retS (mp (.val (.bl false)))) (mp .nx))))))
  (retS (mp (.val (.bl true))))))

noncomputable def fn__law_same (G : Str → Addr) : Fn := fnB 2 5 (b__law_same G)

-- slots of _law_all: 0 pairs, 1 told, 2 due

noncomputable def b__law_all (G : Str → Addr) : M Fl := (retS (bin eqD (lsM lenD (aCons (compM [1, 2] (anyI (rd 0)) (tgA 2 (tgCons (tgN 1) (tgCons (tgN 2) tgNil))) (notT (tst (callM 2 (fn__law_same G) (aCons (rd 1) (aCons (rd 2) (mp [])))))) (rd 1)) (mp []))) (mp (.val (.int 0)))))

noncomputable def fn__law_all (G : Str → Addr) : Fn := fnB 1 3 (b__law_all G)

-- slots of _law_any: 0 deal, 1 bound, 2 rest

noncomputable def b__law_any (G : Str → Addr) : M Fl := (seqS (whileS (andT (tst (bin gtD (lenDeal 0) (mp (.val (.int 0))))) (tst (bin eqD (lastDeal 0) (mp (.val (.int 0)))))) (exprS (popDeal 0)))
  (seqS (ifS (tst (bin gtD (lenDeal 0) (mp (.val (.int 0))))) (seqS (setS 2 (lsM int1D (aCons (popDeal 0) (mp []))))
  (seqS (exprS (appDeal 0 (bin fdivD (rd 2) (rd 1))))
  (retS (bin modD (rd 2) (rd 1))))) (mp .nx))
  (seqS (setDeal 0 (bin modD (lsM int1D (aCons (bin addD (bin mulTD (mixDeal 0) (mp (.val (.int 48271)))) (mp (.val (.int 31)))) (mp []))) (mp (.val (.int 2147483647)))))
  (retS (bin modD (lsM int1D (aCons (bin fdivD (mixDeal 0) (mp (.val (.int 64)))) (mp []))) (rd 1))))))

noncomputable def fn__law_any (G : Str → Addr) : Fn := fnB 2 3 (b__law_any G)

-- slots of _law_of: 0 deal, 1 some

noncomputable def b__law_of (G : Str → Addr) : M Fl := (retS (ixV 1 (callM 2 (fn__law_any G) (aCons (rd 0) (aCons (lenV 1) (mp []))))))

noncomputable def fn__law_of (G : Str → Addr) : Fn := fnB 2 2 (b__law_of G)

-- slots of _law_octet: 0 deal

noncomputable def b__law_octet (G : Str → Addr) : M Fl := (retS (callM 2 (fn__law_of G) (aCons (rd 0) (aCons (mkL (aCons (mp (.val (.int 0))) (aCons (mp (.val (.int 1))) (aCons (mp (.val (.int 127))) (aCons (mp (.val (.int 128))) (aCons (mp (.val (.int 255))) (aCons (callM 2 (fn__law_any G) (aCons (rd 0) (aCons (mp (.val (.int 256))) (mp [])))) (aCons (callM 2 (fn__law_any G) (aCons (rd 0) (aCons (mp (.val (.int 256))) (mp [])))) (aCons (callM 2 (fn__law_any G) (aCons (rd 0) (aCons (mp (.val (.int 128))) (mp [])))) (mp [])))))))))) (mp [])))))

noncomputable def fn__law_octet (G : Str → Addr) : Fn := fnB 1 1 (b__law_octet G)

-- slots of _law_some_body: 0 deal, 1 many, 2 one, 3 step, 4 turn

noncomputable def b__law_some_body (G : Str → Addr) : M Fl := (seqS (setS 1 (callM 2 (fn__law_of G) (aCons (rd 0) (aCons (mkL (aCons (mp (.val (.int 0))) (aCons (mp (.val (.int 1))) (aCons (mp (.val (.int 2))) (aCons (mp (.val (.int 5))) (aCons (mp (.val (.int 20))) (aCons (mp (.val (.int 126))) (aCons (mp (.val (.int 127))) (aCons (mp (.val (.int 128))) (aCons (mp (.val (.int 129))) (aCons (mp (.val (.int 300))) (mp [])))))))))))) (mp [])))))
  (seqS (ifS (tst (bin gtD (rd 1) (mp (.val (.int 30))))) (seqS (asgS (mkT (aCons (callM 1 (fn__law_octet G) (aCons (rd 0) (mp []))) (aCons (callM 2 (fn__law_of G) (aCons (rd 0) (aCons (mkL (aCons (mp (.val (.int 0))) (aCons (mp (.val (.int 1))) (aCons (mp (.val (.int 7))) (aCons (mp (.val (.int 128))) (mp [])))))) (mp [])))) (mp [])))) (tgA 2 (tgCons (tgN 2) (tgCons (tgN 3) tgNil))))
  (retS (compM [4] (rangeI1 (aCons (rd 1) (mp []))) (tgN 4) (mp true) (bin modD (lsM int1D (aCons (bin addD (rd 2) (bin mulTD (rd 4) (rd 3))) (mp []))) (mp (.val (.int 256))))))) (mp .nx))
  (retS (compM [4] (rangeI1 (aCons (rd 1) (mp []))) (tgN 4) (mp true) (callM 1 (fn__law_octet G) (aCons (rd 0) (mp [])))))))

noncomputable def fn__law_some_body (G : Str → Addr) : Fn := fnB 1 5 (b__law_some_body G)

-- slots of _law_sum: 0 octets, 1 at

noncomputable def b__law_sum (G : Str → Addr) : M Fl := (retS (bin modD (lsM int1D (aCons (lsM sumD (aCons (compM [1] (rangeI1 (aCons (lenV 0) (mp []))) (tgN 1) (mp true) (bin mulTD (ixV 0 (rd 1)) (bin addD (rd 1) (mp (.val (.int 1)))))) (mp []))) (mp []))) (mp (.val (.int 65521)))))

noncomputable def fn__law_sum (G : Str → Addr) : Fn := fnB 1 2 (b__law_sum G)

-- slots of _law_number_octets: 0 number, 1 found, 2 rest

noncomputable def b__law_number_octets (G : Str → Addr) : M Fl := (seqS (parO 1 2 (mkL (mp [])) (rd 0))
  (seqS (whileS (tst (bin gtD (rd 2) (mp (.val (.int 127))))) (seqS (exprS (mutM 1 (aCons (bin addD (bin modD (lsM int1D (aCons (rd 2) (mp []))) (mp (.val (.int 128)))) (mp (.val (.int 128)))) (mp [])) appendF))
  (setS 2 (bin fdivD (rd 2) (mp (.val (.int 128)))))))
  (retS (bin addD (rd 1) (mkL (aCons (rd 2) (mp [])))))))

noncomputable def fn__law_number_octets (G : Str → Addr) : Fn := fnB 1 3 (b__law_number_octets G)

-- slots of _law_framed: 0 body, 1 total

noncomputable def b__law_framed (G : Str → Addr) : M Fl := (seqS (setS 1 (callM 1 (fn__law_sum G) (aCons (rd 0) (mp []))))
  (retS (bin addD (bin addD (callM 1 (fn__law_number_octets G) (aCons (lenV 0) (mp []))) (rd 0)) (mkL (aCons (bin modD (lsM int1D (aCons (rd 1) (mp []))) (mp (.val (.int 256)))) (aCons (bin fdivD (rd 1) (mp (.val (.int 256)))) (mp [])))))))

noncomputable def fn__law_framed (G : Str → Addr) : Fn := fnB 1 2 (b__law_framed G)

-- slots of _law_bent: 0 deal, 1 octets, 2 at, 3 sort

noncomputable def b__law_bent (G : Str → Addr) : M Fl := (seqS (ifS (tst (bin eqD (lenV 1) (mp (.val (.int 0))))) (retS (rdm 1)) (mp .nx))
  (seqS (parO 2 3 (callM 2 (fn__law_any G) (aCons (rd 0) (aCons (lenV 1) (mp [])))) (callM 2 (fn__law_any G) (aCons (rd 0) (aCons (mp (.val (.int 4))) (mp [])))))
  (seqS (ifS (tst (bin eqD (rd 3) (mp (.val (.int 0))))) (retS (bin addD (slM slD (rd 1) (mp none) (oSome (rd 2))) (slM slD (rd 1) (oSome (bin addD (rd 2) (mp (.val (.int 1))))) (mp none)))) (mp .nx))
  (seqS (ifS (tst (bin eqD (rd 3) (mp (.val (.int 1))))) (retS (bin addD (bin addD (slM slD (rd 1) (mp none) (oSome (rd 2))) (mkL (aCons (callM 1 (fn__law_octet G) (aCons (rd 0) (mp []))) (mp [])))) (slM slD (rd 1) (oSome (rd 2)) (mp none)))) (mp .nx))
  (retS (bin addD (bin addD (slM slD (rd 1) (mp none) (oSome (rd 2))) (mkL (aCons (bin modD (lsM int1D (aCons (bin addD (ixV 1 (rd 2)) (callM 2 (fn__law_of G) (aCons (rd 0) (aCons (mkL (aCons (mp (.val (.int 1))) (aCons (mp (.val (.int 128))) (aCons (mp (.val (.int 255))) (aCons (bin addD (mp (.val (.int 1))) (callM 2 (fn__law_any G) (aCons (rd 0) (aCons (mp (.val (.int 255))) (mp []))))) (mp [])))))) (mp []))))) (mp []))) (mp (.val (.int 256)))) (mp [])))) (slM slD (rd 1) (oSome (bin addD (rd 2) (mp (.val (.int 1))))) (mp none))))))))

noncomputable def fn__law_bent (G : Str → Addr) : Fn := fnB 2 4 (b__law_bent G)

-- slots of behind_number: 0 octets, 1 at, 2 place

noncomputable def b_behind_number (G : Str → Addr) : M Fl := (seqS (ifS (tst (bin ltD (rd 1) (mp (.val (.int 0))))) (retS (mp (.val .non))) (mp .nx))
  (seqS (forS (rangeI2 (aCons (rd 1) (aCons (lenV 0) (mp [])))) (tgN 2) (ifS (tst (bin ltD (ixV 0 (rd 2)) (mp (.val (.int 128))))) (retS (bin addD (rd 2) (mp (.val (.int 1))))) (mp .nx)))
  (retS (mp (.val .non)))))

noncomputable def fn_behind_number (G : Str → Addr) : Fn := fnB 2 3 (b_behind_number G)

-- slots of number_of: 0 figures, 1 row, 2 base, 3 pairs, 4 at

noncomputable def b_number_of (G : Str → Addr) : M Fl := (seqS (asgS (mkT (aCons (lsM listD (aCons (rd 0) (mp []))) (aCons (mp (.val (.int 128))) (mp [])))) (tgA 2 (tgCons (tgN 1) (tgCons (tgN 2) tgNil))))
  (seqS (whileS (tst (bin gtD (lenV 1) (mp (.val (.int 1))))) (seqS (setS 3 (compM [4] (rangeI3 (aCons (mp (.val (.int 0))) (aCons (bin subD (lenV 1) (mp (.val (.int 1)))) (aCons (mp (.val (.int 2))) (mp []))))) (tgN 4) (mp true) (bin addD (ixV 1 (rd 4)) (bin mulTD (rd 2) (ixV 1 (bin addD (rd 4) (mp (.val (.int 1)))))))))
  (seqS (ifS (tst (bin eqD (bin modD (lenV 1) (mp (.val (.int 2)))) (mp (.val (.int 1))))) (exprS (mutM 3 (aCons (ixV 1 (bin subD (lenV 1) (mp (.val (.int 1))))) (mp [])) appendF)) (mp .nx))
  (seqS (setS 1 (rd 3))
  (setS 2 (bin mulTD (rd 2) (rd 2)))))))
  (retS (ixV 1 (mp (.val (.int 0)))))))

noncomputable def fn_number_of (G : Str → Addr) : Fn := fnB 1 5 (b_number_of G)

-- slots of number_in: 0 octets, 1 at, 2 end, 3 figures, 4 octet

noncomputable def b_number_in (G : Str → Addr) : M Fl := (seqS (setS 2 (callM 2 (fn_behind_number G) (aCons (rd 0) (aCons (rd 1) (mp [])))))
  (seqS (ifS (orT (tst (bin isD (rd 2) (mp (.val .non)))) (andT (tst (bin gtD (bin subD (rd 2) (rd 1)) (mp (.val (.int 1))))) (tst (bin eqD (ixV 0 (bin subD (rd 2) (mp (.val (.int 1))))) (mp (.val (.int 0))))))) (retS (mp (.val .non))) (mp .nx))
  (seqS (setS 3 (bin addD (compM [4] (anyI (slM slD (rd 0) (oSome (rd 1)) (oSome (bin subD (rd 2) (mp (.val (.int 1))))))) (tgN 4) (mp true) (bin subD (rd 4) (mp (.val (.int 128))))) (mkL (aCons (ixV 0 (bin subD (rd 2) (mp (.val (.int 1))))) (mp [])))))
  (retS (mkT (aCons (callM 1 (fn_number_of G) (aCons (rd 3) (mp []))) (aCons (rd 2) (mp []))))))))

noncomputable def fn_number_in (G : Str → Addr) : Fn := fnB 2 5 (b_number_in G)

-- slots of sum_of_octets: 0 octets, 1 found, 2 at, 3 octet

noncomputable def b_sum_of_octets (G : Str → Addr) : M Fl := (seqS (setS 1 (mp (.val (.int 0))))
  (seqS (forS (enumAI (aCons (rd 0) (mp []))) (tgA 2 (tgCons (tgN 2) (tgCons (tgN 3) tgNil))) (augS 1 iaddD (bin mulTD (bin addD (rd 2) (mp (.val (.int 1)))) (rd 3))))
  (retS (bin modD (rd 1) (mp (.val (.int 65521)))))))

noncomputable def fn_sum_of_octets (G : Str → Addr) : Fn := fnB 1 4 (b_sum_of_octets G)

-- slots of sum_pair: 0 body, 1 found

noncomputable def b_sum_pair (G : Str → Addr) : M Fl := (seqS (setS 1 (callM 1 (fn_sum_of_octets G) (aCons (rd 0) (mp []))))
  (retS (mkT (aCons (bin modD (rd 1) (mp (.val (.int 256)))) (aCons (bin fdivD (rd 1) (mp (.val (.int 256)))) (mp []))))))

noncomputable def fn_sum_pair (G : Str → Addr) : Fn := fnB 1 2 (b_sum_pair G)

-- slots of frame_at: 0 octets, 1 at, 2 told, 3 end, 4 body

noncomputable def b_frame_at (G : Str → Addr) : M Fl := (seqS (setS 2 (callM 2 (fn_number_in G) (aCons (rd 0) (aCons (rd 1) (mp [])))))
  (seqS (ifS (orT (tst (bin isD (rd 2) (mp (.val .non)))) (tst (bin gtD (bin addD (ixV 2 (mp (.val (.int 0)))) (mp (.val (.int 2)))) (bin subD (lenV 0) (ixV 2 (mp (.val (.int 1)))))))) (retS (mp (.val .non))) (mp .nx))
  (seqS (setS 3 (bin addD (ixV 2 (mp (.val (.int 0)))) (ixV 2 (mp (.val (.int 1))))))
  (seqS (setS 4 (slM slD (rd 0) (oSome (ixV 2 (mp (.val (.int 1))))) (oSome (rd 3))))
  (seqS (ifS (tst (bin neD (slM slD (rd 0) (oSome (rd 3)) (oSome (bin addD (rd 3) (mp (.val (.int 2)))))) (callM 1 (fn_sum_pair G) (aCons (rd 4) (mp []))))) (retS (mp (.val .non))) (mp .nx))
  (retS (mkT (aCons (rd 4) (aCons (bin addD (rd 3) (mp (.val (.int 2)))) (mp []))))))))))

noncomputable def fn_frame_at (G : Str → Addr) : Fn := fnB 2 5 (b_frame_at G)

-- slots of frames: 0 octets, 1 bodies, 2 place, 3 told

noncomputable def b_frames (G : Str → Addr) : M Fl := (seqS (setS 0 (lsM tupleD (aCons (rd 0) (mp []))))
  (seqS (parO 1 2 (mkL (mp [])) (mp (.val (.int 0))))
  (seqS (setS 3 (callM 2 (fn_frame_at G) (aCons (rd 0) (aCons (mp (.val (.int 0))) (mp [])))))
  (seqS (whileS (tst (bin isnD (rd 3) (mp (.val .non)))) (seqS (exprS (mutM 1 (aCons (ixV 3 (mp (.val (.int 0)))) (mp [])) appendF))
  (seqS (setS 2 (ixV 3 (mp (.val (.int 1)))))
  (setS 3 (callM 2 (fn_frame_at G) (aCons (rd 0) (aCons (rd 2) (mp []))))))))
  (retS (mkT (aCons (lsM tupleD (aCons (rd 1) (mp []))) (aCons (rd 2) (mp [])))))))))

noncomputable def fn_frames (G : Str → Addr) : Fn := fnB 1 4 (b_frames G)

-- slots of _law_number_at: 0 octets, 1 at, 2 number, 3 base, 4 place

noncomputable def b__law_number_at (G : Str → Addr) : M Fl := (seqS (parS3 2 3 4 (mp (.val (.int 0))) (mp (.val (.int 1))) (rd 1))
  (seqS (ifS (tst (bin ltD (rd 1) (mp (.val (.int 0))))) (retS (mp (.val .non))) (mp .nx))
  (seqS (whileS (andT (tst (bin ltD (rd 4) (lenV 0))) (tst (bin gtD (ixV 0 (rd 4)) (mp (.val (.int 127)))))) (parS3 2 3 4 (bin addD (rd 2) (bin mulTD (rd 3) (bin subD (ixV 0 (rd 4)) (mp (.val (.int 128)))))) (bin mulTD (rd 3) (mp (.val (.int 128)))) (bin addD (rd 4) (mp (.val (.int 1))))))
  (seqS (ifS (orT (tst (bin geD (rd 4) (lenV 0))) (andT (tst (bin gtD (rd 4) (rd 1))) (tst (bin eqD (ixV 0 (rd 4)) (mp (.val (.int 0))))))) (retS (mp (.val .non))) (mp .nx))
  (retS (mkT (aCons (bin addD (rd 2) (bin mulTD (rd 3) (ixV 0 (rd 4)))) (aCons (bin addD (rd 4) (mp (.val (.int 1)))) (mp [])))))))))

noncomputable def fn__law_number_at (G : Str → Addr) : Fn := fnB 2 5 (b__law_number_at G)

-- slots of _law_frames_in: 0 octets, 1 bodies, 2 place, 3 turn, 4 told, 5 body, 6 behind, 7 total

noncomputable def b__law_frames_in (G : Str → Addr) : M Fl := (seqS (parO 1 2 (mkL (mp [])) (mp (.val (.int 0))))
  (seqS (forS (rangeI1 (aCons (bin addD (lenV 0) (mp (.val (.int 1)))) (mp []))) (tgN 3) (seqS (setS 4 (callM 2 (fn__law_number_at G) (aCons (rd 0) (aCons (rd 2) (mp [])))))
  (seqS (ifS (orT (tst (bin isD (rd 4) (mp (.val .non)))) (tst (bin gtD (bin addD (ixV 4 (mp (.val (.int 0)))) (mp (.val (.int 2)))) (bin subD (lenV 0) (ixV 4 (mp (.val (.int 1)))))))) (retS (mkT (aCons (rd 1) (aCons (rd 2) (mp []))))) (mp .nx))
  (seqS (parO 5 6 (slM slD (rd 0) (oSome (ixV 4 (mp (.val (.int 1))))) (oSome (bin addD (ixV 4 (mp (.val (.int 1)))) (ixV 4 (mp (.val (.int 0))))))) (bin addD (ixV 4 (mp (.val (.int 1)))) (ixV 4 (mp (.val (.int 0))))))
  (seqS (setS 7 (callM 1 (fn__law_sum G) (aCons (rd 5) (mp []))))
  (seqS (ifS (orT (tst (bin neD (ixV 0 (rd 6)) (bin modD (lsM int1D (aCons (rd 7) (mp []))) (mp (.val (.int 256)))))) (tst (bin neD (ixV 0 (bin addD (rd 6) (mp (.val (.int 1))))) (bin fdivD (rd 7) (mp (.val (.int 256))))))) (retS (mkT (aCons (rd 1) (aCons (rd 2) (mp []))))) (mp .nx))
  (parO 1 2 (bin addD (rd 1) (mkL (aCons (rd 5) (mp [])))) (bin addD (rd 6) (mp (.val (.int 2)))))))))))
  (retS (mkT (aCons (rd 1) (aCons (rd 2) (mp [])))))))

noncomputable def fn__law_frames_in (G : Str → Addr) : Fn := fnB 1 8 (b__law_frames_in G)

-- slots of _law_due: 0 octets, 1 bodies, 2 place, 3 body

noncomputable def b__law_due (G : Str → Addr) : M Fl := (seqS (asgS (callM 1 (fn__law_frames_in G) (aCons (rd 0) (mp []))) (tgA 2 (tgCons (tgN 1) (tgCons (tgN 2) tgNil))))
  (retS (mkT (aCons (lsM tupleD (aCons (compM [3] (anyI (rd 1)) (tgN 3) (mp true) (lsM tupleD (aCons (rd 3) (mp [])))) (mp []))) (aCons (rd 2) (mp []))))))

noncomputable def fn__law_due (G : Str → Addr) : Fn := fnB 1 4 (b__law_due G)

-- slots of octets_of_number: 0 number, 1 found, 2 rest

noncomputable def b_octets_of_number (G : Str → Addr) : M Fl := (seqS (setS 1 (mkL (mp [])))
  (seqS (setS 2 (rd 0))
  (seqS (whileS (tst (bin geD (rd 2) (mp (.val (.int 128))))) (seqS (exprS (mutM 1 (aCons (bin addD (mp (.val (.int 128))) (bin modD (rd 2) (mp (.val (.int 128))))) (mp [])) appendF))
  (setS 2 (bin fdivD (rd 2) (mp (.val (.int 128)))))))
  (seqS (exprS (mutM 1 (aCons (rd 2) (mp [])) appendF))
  (retS (lsM tupleD (aCons (rd 1) (mp []))))))))

noncomputable def fn_octets_of_number (G : Str → Addr) : Fn := fnB 1 3 (b_octets_of_number G)

-- slots of number_octets: 0 number

noncomputable def b_number_octets (G : Str → Addr) : M Fl := (retS (callM 1 (fn_octets_of_number G) (aCons (rd 0) (mp []))))

noncomputable def fn_number_octets (G : Str → Addr) : Fn := fnB 1 1 (b_number_octets G)

-- slots of frame: 0 body

noncomputable def b_frame (G : Str → Addr) : M Fl := (retS (bin addD (bin addD (callM 1 (fn_number_octets G) (aCons (lenV 0) (mp []))) (lsM tupleD (aCons (rd 0) (mp [])))) (callM 1 (fn_sum_pair G) (aCons (rd 0) (mp [])))))

noncomputable def fn_frame (G : Str → Addr) : Fn := fnB 1 1 (b_frame G)

-- slots of law: 0 script, 1 deal, 2 pairs, 3 rows, 4 turn, 5 body, 6 row, 7 octets, 8 many, 9 ahead, 10 last, 11 cut, 12 bent, 13 wrong, 14 mixed, 15 one, 16 total, 17 number

noncomputable def b_law (G : Str → Addr) : M Fl := (seqS (parO 2 3 (mkL (mp [])) (mkL (mp [])))
  (seqS (forS (rangeI1 (aCons (callM 2 (fn__law_of G) (aCons (rd 1) (aCons (mkL (aCons (mp (.val (.int 1))) (aCons (mp (.val (.int 2))) (aCons (mp (.val (.int 4))) (aCons (mp (.val (.int 7))) (mp [])))))) (mp [])))) (mp []))) (tgN 4) (seqS (setS 5 (callM 1 (fn__law_some_body G) (aCons (rd 1) (mp []))))
  (seqS (setS 6 (callM 1 (fn__law_framed G) (aCons (rd 5) (mp []))))
  (seqS (exprS (mutM 2 (aCons (mkT (aCons (iteM (tst (bin ltD (rd 4) (mp (.val (.int 2))))) (callM 1 (fn_frame G) (aCons (lsM tupleD (aCons (rd 5) (mp []))) (mp []))) (callM 1 (fn_frame G) (kwM 0 1 [0] (mp []) (aCons (lsM tupleD (aCons (rd 5) (mp []))) (mp []))))) (aCons (lsM tupleD (aCons (rd 6) (mp []))) (mp [])))) (mp [])) appendF))
  (exprS (mutM 3 (aCons (mkT (aCons (rd 5) (aCons (rd 6) (mp [])))) (mp [])) appendF))))))
  (seqS (setS 7 (callM 1 (fn__law_joined G) (aCons (compM [5, 6] (anyI (rd 3)) (tgA 2 (tgCons (tgN 5) (tgCons (tgN 6) tgNil))) (mp true) (rd 6)) (mp []))))
  (seqS (exprS (mutM 2 (aCons (mkT (aCons (callM 1 (fn_frames G) (aCons (lsM tupleD (aCons (rd 7) (mp []))) (mp []))) (aCons (mkT (aCons (lsM tupleD (aCons (compM [5, 6] (anyI (rd 3)) (tgA 2 (tgCons (tgN 5) (tgCons (tgN 6) tgNil))) (mp true) (lsM tupleD (aCons (rd 5) (mp [])))) (mp []))) (aCons (lenV 7) (mp [])))) (mp [])))) (mp [])) appendF))
  (seqS (forS (rangeI1 (aCons (mp (.val (.int 3))) (mp []))) (tgN 4) (seqS (setS 8 (callM 2 (fn__law_any G) (aCons (rd 1) (aCons (lenV 3) (mp [])))))
  (seqS (setS 9 (callM 1 (fn__law_joined G) (aCons (compM [5, 6] (anyI (slM slD (rd 3) (mp none) (oSome (rd 8)))) (tgA 2 (tgCons (tgN 5) (tgCons (tgN 6) tgNil))) (mp true) (rd 6)) (mp []))))
  (seqS (setS 10 (bin ixD (ixV 3 (rd 8)) (mp (.val (.int 1)))))
  (seqS (setS 11 (bin addD (rd 9) (slM slD (rd 10) (mp none) (oSome (callM 2 (fn__law_any G) (aCons (rd 1) (aCons (lenV 10) (mp []))))))))
  (seqS (exprS (mutM 2 (aCons (mkT (aCons (callM 1 (fn_frames G) (kwM 0 1 [0] (mp []) (aCons (lsM tupleD (aCons (rd 11) (mp []))) (mp [])))) (aCons (mkT (aCons (lsM tupleD (aCons (compM [5, 6] (anyI (slM slD (rd 3) (mp none) (oSome (rd 8)))) (tgA 2 (tgCons (tgN 5) (tgCons (tgN 6) tgNil))) (mp true) (lsM tupleD (aCons (rd 5) (mp [])))) (mp []))) (aCons (lenV 9) (mp [])))) (mp [])))) (mp [])) appendF))
  (seqS (exprS (mutM 2 (aCons (mkT (aCons (callM 1 (fn_frames G) (aCons (lsM tupleD (aCons (bin addD (rd 9) (rd 10)) (mp []))) (mp []))) (aCons (mkT (aCons (lsM tupleD (aCons (compM [5, 6] (anyI (slM slD (rd 3) (mp none) (oSome (bin addD (rd 8) (mp (.val (.int 1))))))) (tgA 2 (tgCons (tgN 5) (tgCons (tgN 6) tgNil))) (mp true) (lsM tupleD (aCons (rd 5) (mp [])))) (mp []))) (aCons (lsM lenD (aCons (bin addD (rd 9) (rd 10)) (mp []))) (mp [])))) (mp [])))) (mp [])) appendF))
  (seqS (setS 12 (callM 2 (fn__law_bent G) (aCons (rd 1) (aCons (rd 7) (mp [])))))
  (seqS (exprS (mutM 2 (aCons (mkT (aCons (callM 1 (fn_frames G) (aCons (lsM tupleD (aCons (rd 12) (mp []))) (mp []))) (aCons (callM 1 (fn__law_due G) (aCons (rd 12) (mp []))) (mp [])))) (mp [])) appendF))
  (seqS (setS 13 (callM 2 (fn__law_of G) (aCons (rd 1) (aCons (mkL (aCons (mkL (aCons (mp (.val (.int 0))) (aCons (mp (.val (.int 0))) (aCons (mp (.val (.int 1))) (mp []))))) (aCons (mkL (aCons (mp (.val (.int 1))) (aCons (mp (.val (.int 0))) (aCons (mp (.val (.int 1))) (aCons (mp (.val (.int 0))) (mp [])))))) (aCons (mkL (aCons (mp (.val (.int 0))) (aCons (mp (.val (.int 1))) (aCons (mp (.val (.int 0))) (mp []))))) (aCons (mkL (aCons (mp (.val (.int 128))) (aCons (mp (.val (.int 0))) (aCons (mp (.val (.int 0))) (aCons (mp (.val (.int 0))) (mp [])))))) (aCons (mkL (aCons (mp (.val (.int 1))) (aCons (mp (.val (.int 5))) (aCons (mp (.val (.int 0))) (aCons (mp (.val (.int 5))) (mp [])))))) (aCons (mkL (aCons (mp (.val (.int 255))) (mp []))) (aCons (mkL (aCons (mp (.val (.int 3))) (aCons (mp (.val (.int 1))) (aCons (mp (.val (.int 1))) (aCons (mp (.val (.int 1))) (aCons (mp (.val (.int 6))) (mp []))))))) (aCons (mkL (aCons (mp (.val (.int 2))) (aCons (mp (.val (.int 1))) (aCons (mp (.val (.int 1))) (aCons (mp (.val (.int 3))) (aCons (mp (.val (.int 1))) (mp []))))))) (mp [])))))))))) (mp [])))))
  (seqS (setS 14 (bin addD (bin addD (bin addD (rd 9) (rd 13)) (rd 10)) (compM [17] (rangeI1 (aCons (callM 2 (fn__law_any G) (aCons (rd 1) (aCons (mp (.val (.int 5))) (mp [])))) (mp []))) (tgN 17) (mp true) (callM 1 (fn__law_octet G) (aCons (rd 1) (mp []))))))
  (exprS (mutM 2 (aCons (mkT (aCons (callM 1 (fn_frames G) (aCons (lsM tupleD (aCons (rd 14) (mp []))) (mp []))) (aCons (callM 1 (fn__law_due G) (aCons (rd 14) (mp []))) (mp [])))) (mp [])) appendF)))))))))))))
  (seqS (ifS (tst (bin eqD (callM 2 (fn__law_any G) (aCons (rd 1) (aCons (mp (.val (.int 6))) (mp [])))) (mp (.val (.int 0))))) (seqS (parO 8 15 (callM 2 (fn__law_of G) (aCons (rd 1) (aCons (mkL (aCons (mp (.val (.int 16384))) (aCons (mp (.val (.int 16383))) (aCons (mp (.val (.int 20000))) (mp []))))) (mp [])))) (callM 1 (fn__law_octet G) (aCons (rd 1) (mp []))))
  (seqS (setS 16 (bin modD (lsM int1D (aCons (bin mulTD (rd 15) (bin fdivD (bin mulTD (rd 8) (bin addD (rd 8) (mp (.val (.int 1))))) (mp (.val (.int 2))))) (mp []))) (mp (.val (.int 65521)))))
  (seqS (setS 6 (bin addD (bin addD (callM 1 (fn__law_number_octets G) (aCons (rd 8) (mp []))) (bin mulTD (mkL (aCons (rd 15) (mp []))) (rd 8))) (mkL (aCons (bin modD (lsM int1D (aCons (rd 16) (mp []))) (mp (.val (.int 256)))) (aCons (bin fdivD (rd 16) (mp (.val (.int 256)))) (mp []))))))
  (seqS (exprS (mutM 2 (aCons (mkT (aCons (callM 1 (fn_frame G) (aCons (bin mulTD (mkT (aCons (rd 15) (mp []))) (rd 8)) (mp []))) (aCons (lsM tupleD (aCons (rd 6) (mp []))) (mp [])))) (mp [])) appendF))
  (exprS (mutM 2 (aCons (mkT (aCons (callM 1 (fn_frames G) (aCons (lsM tupleD (aCons (bin addD (rd 6) (mkL (aCons (mp (.val (.int 0))) (aCons (mp (.val (.int 0))) (mp []))))) (mp []))) (mp []))) (aCons (mkT (aCons (mkT (aCons (bin mulTD (mkT (aCons (rd 15) (mp []))) (rd 8)) (mp []))) (aCons (lenV 6) (mp [])))) (mp [])))) (mp [])) appendF)))))) (mp .nx))
  (seqS (exprS (mutM 2 (aCons (mkT (aCons (callM 1 (fn_frames G) (aCons (mkT (mp [])) (mp []))) (aCons (mkT (aCons (mkT (mp [])) (aCons (mp (.val (.int 0))) (mp [])))) (mp [])))) (mp [])) appendF))
  (retS (callM 1 (fn__law_all G) (aCons (rd 2) (mp [])))))))))))

end K80

end
section
set_option Elab.async false
set_option Elab.async false
set_option linter.all false
set_option maxRecDepth 100000
set_option maxHeartbeats 2000000
set_option autoImplicit false
namespace DD
open PySem PySem.Spec PyProof.Rows L2
/-! ### the head's facts, with one Bool more -/
abbrev AlE : Type := He.AlD × Bool
def frE (n : Nat) (g : Addr → Option Obj) : PySem.W.Frag := He.frG g (He.asD g n)
def obsE (n : Nat) (fa : List He.Fa) (fn : List He.DefD) (ex : PySem.W.Frag → Bool) (g : Addr → Option Obj) : AlE := (fun K => (He.obsD fa fn K, ex K)) (frE n g)
def hookE (n : Nat) (fa : List He.Fa) (fn : List He.DefD) (ex : PySem.W.Frag → Bool) : PySem.W.Hook where
  α := AlE
  obs := fun s => obsE n fa fn ex s.heap.get?
  val := fun _ => (He.valD fn, true)
  says := fun _ h => ∃ K : PySem.W.Frag, K.In h ∧ He.SaysD fa fn K ∧ ex K = true
  of := fun _ s e => ⟨frE n s.heap.get?, He.frG_in, congrArg (fun z : AlE => z.1) e, congrArg (fun z : AlE => z.2) e⟩
  keeps := fun _ _ _ ⟨K, hK, c⟩ k => ⟨K, PySem.W.Frag.In.keeps hK k, c⟩
theorem obsE_eq {n : Nat} {fa : List He.Fa} {fn : List He.DefD} {ex : PySem.W.Frag → Bool} {g : Addr → Option Obj} {s : Shared} (h : ∀ a, g a = s.heap.get? a) : obsE n fa fn ex g = (hookE n fa fn ex).obs s := by
  have e : g = s.heap.get? := funext h
  rw [e] <;> rfl
def someB (o : Option Bool) (b : Bool) : Bool := match o with
  | some c => c == b
  | none => false
theorem someB_ok {o : Option Bool} {b : Bool} (h : someB o b = true) : o = some b := by
  cases o with
  | none => cases h
  | some c => exact congrArg some (eq_of_beq h)
/-- what isinstance asks of these classes -/
def isiC (K : PySem.W.Frag) (cs : List Addr) : Bool :=
  (cs.all fun C => plainTys.all fun t => someB (PySem.W.kitOne K (.type t) (.ref C)) false && someB (PySem.W.kitOne K (.ref C) (.type t)) false) &&
  ((cs.all fun C => cs.all fun C' => someB (PySem.W.kitOne K (.ref C) (.ref C')) (C == C')) &&
  ((cs.all fun C => He.eqO (PySem.W.findIn K (.ref C) "__class__") (some (some (.builtin "object.__class__"))) && someB (PySem.W.mroIn K C (.type "object")) true) &&
  (cs.isEmpty || (He.eqO (PySem.W.specialIn K (.builtin "object.__class__") "__get__") (some (some (.builtin "getset_descriptor.__get__"))) && someB (PySem.W.takesIn K (.builtin "object.__class__")) true))))
theorem isiC_ok {K : PySem.W.Frag} {cs : List Addr} (h : isiC K cs = true) (hc : ∀ C ∈ cs, Cls K C) : IsiF K cs := by
  unfold isiC at h
  simp only [Bool.and_eq_true, List.all_eq_true, Bool.or_eq_true] at h
  obtain ⟨h1, h2, h3, h4⟩ := h
  refine ⟨fun C hC t ht => someB_ok (h1 C hC t ht).1, fun C hC C' hC' => ?_, fun C hC t ht => someB_ok (h1 C hC t ht).2, fun C hC => ⟨hc C hC, He.eqO_ok (h3 C hC).1, someB_ok (h3 C hC).2⟩, ?_⟩
  · have := someB_ok (h2 C hC C' hC')
    rw [this]
    by_cases e : C = C'
    · subst e; simp
    · simp [e]
  · rcases h4 with h4 | h4
    · exact .inl (List.isEmpty_iff.mp h4)
    · exact .inr ⟨He.eqO_ok h4.1, someB_ok h4.2⟩
end DD

end
section
set_option Elab.async false
set_option Elab.async false
set_option linter.all false
set_option maxRecDepth 100000
set_option maxHeartbeats 2000000
set_option autoImplicit false
namespace DD
open PySem
/-! ### reading what a body does: Ev f S Q: from S it comes to an end with a value and a state of Q -/
inductive Ev {α : Type} (f : M α) (S : Sta) (Q : α → Sta → Prop) : Prop
  | of (a : α) (S' : Sta) (e : f S = .ok a S') (q : Q a S') : Ev f S Q
theorem Ev_def {α : Type} {f : M α} {S : Sta} {Q : α → Sta → Prop} : Ev f S Q = (match f S with
  | .ok a S' => Q a S'
  | _ => False) := by
  apply propext
  constructor
  · rintro ⟨a, S', e, q⟩
    rw [e]; exact q
  · intro h
    cases e : f S with
    | ok a S' => rw [e] at h; exact ⟨a, S', e, h⟩
    | exc x S' => rw [e] at h; exact h.elim
    | bad => rw [e] at h; exact h.elim
section
variable {α β : Type} {f : M α} {k : α → M β} {S : Sta} {i j l n : Nat}
theorem Ev.intro {a : α} {S' : Sta} {Q : α → Sta → Prop} (e : f S = .ok a S') (q : Q a S') : Ev f S Q := .of a S' e q
theorem Ev.elim {Q : α → Sta → Prop} (h : Ev f S Q) : ∃ a S', f S = .ok a S' ∧ Q a S' := by
  simp only [Ev_def] at h
  cases e : f S with
  | ok a S' => rw [e] at h; exact ⟨a, S', rfl, h⟩
  | exc x S' => rw [e] at h; exact h.elim
  | bad => rw [e] at h; exact h.elim
theorem Ev.mono {Q Q' : α → Sta → Prop} (h : Ev f S Q) (m : ∀ a S', Q a S' → Q' a S') : Ev f S Q' := by
  obtain ⟨a, S', e, q⟩ := h.elim
  exact .intro e (m _ _ q)
theorem Ev_congr {f' : M α} {Q : α → Sta → Prop} (h : f S = f' S) : Ev f S Q ↔ Ev f' S Q := by rw [Ev_def, Ev_def, h]
theorem Ev_bad {Q : α → Sta → Prop} (h : f S = .bad) : Ev f S Q ↔ False := by rw [Ev_def, h]
theorem ev_mb {Q : β → Sta → Prop} : Ev (mb f k) S Q ↔ Ev f S fun a S' => Ev (k a) S' Q := by
  simp only [Ev_def]
  unfold mb
  cases f S <;> rfl
theorem ev_mp {a : α} {Q : α → Sta → Prop} : Ev (mp a) S Q ↔ Q a S := by rw [Ev_def]; rfl
/-- an answer that may be none -/
def Opt {α : Type} (o : Option α) (P : α → Prop) : Prop := match o with
  | some a => P a
  | none => False
theorem opt_some {a : α} {P : α → Prop} : Opt (some a) P ↔ P a := Iff.rfl
theorem opt_if {c : Prop} [Decidable c] {a : α} {P : α → Prop} : Opt (if c then some a else none) P ↔ c ∧ P a := by
  by_cases h : c
  · rw [if_pos h]; exact ⟨fun z => ⟨h, z⟩, fun z => z.2⟩
  · rw [if_neg h]; exact ⟨fun z => z.elim, fun z => h z.1⟩
theorem opt_ifo {c : Prop} [Decidable c] {o : Option α} {P : α → Prop} : Opt (if c then o else none) P ↔ c ∧ Opt o P := by
  by_cases h : c
  · rw [if_pos h]; exact ⟨fun z => ⟨h, z⟩, fun z => z.2⟩
  · rw [if_neg h]; exact ⟨fun z => z.elim, fun z => h z.1⟩
theorem opt_map {γ : Type} {o : Option γ} {g : γ → α} {P : α → Prop} : Opt (o.map g) P ↔ Opt o fun a => P (g a) := by cases o <;> rfl
theorem opt_bind {γ : Type} {o : Option γ} {g : γ → Option α} {P : α → Prop} : Opt (o.bind g) P ↔ Opt o fun a => Opt (g a) P := by cases o <;> rfl
theorem opt_of {o : Option α} {a : α} {P : α → Prop} (e : o = some a) (h : P a) : Opt o P := by rw [e]; exact h
theorem ev_mo {o : Option α} {Q : α → Sta → Prop} : Ev (mo o) S Q ↔ Opt o fun a => Q a S := by rw [Ev_def]; cases o <;> rfl
theorem ev_iteM {c : M Bool} {g : M α} {Q : α → Sta → Prop} : Ev (iteM c f g) S Q ↔ Ev c S fun b S1 => if b then Ev f S1 Q else Ev g S1 Q := by
  unfold iteM
  rw [ev_mb]
  simp only [Ev_def]
  cases c S with
  | ok b S1 => cases b <;> rfl
  | exc x S1 => rfl
  | bad => rfl
end
section
variable {S : Sta} {i j l n : Nat} {f g h : M R} {c d : M Bool} {s t : M Fl} {ga : M (List D)}
def slotR (P : R → Sta → Prop) (S : Sta) (i : Nat) : Option Slot → Prop
  | some (.val d) => P (.val d) S
  | some (.own o) => P (.val o.d) { S with sl := S.sl.set i (.val o.d) }
  | _ => False
theorem ev_rd {Q : R → Sta → Prop} : Ev (rd i) S Q ↔ slotR Q S i S.sl[i]? := by
  simp only [Ev_def]
  unfold rd slotR
  cases S.sl[i]? with
  | none => rfl
  | some s => cases s <;> rfl
def slotM (P : R → Sta → Prop) (S : Sta) (i : Nat) : Option Slot → Prop
  | some (.val d) => P (.val d) S
  | some (.own o) => P (.own o) { S with sl := S.sl.set i .un }
  | _ => False
theorem ev_rdm {Q : R → Sta → Prop} : Ev (rdm i) S Q ↔ slotM Q S i S.sl[i]? := by
  simp only [Ev_def]
  unfold rdm slotM
  cases S.sl[i]? with
  | none => rfl
  | some s => cases s <;> rfl
theorem ev_bin {op : D → D → Option R} {Q : R → Sta → Prop} : Ev (bin op f g) S Q ↔ Ev f S fun r S1 => Ev g S1 fun r2 S2 => Opt (op r.d r2.d) fun v => Q v S2 := by
  unfold bin
  simp only [ev_mb, ev_mo]
theorem ev_una {op : D → Option R} {Q : R → Sta → Prop} : Ev (una op f) S Q ↔ Ev f S fun r S1 => Opt (op r.d) fun v => Q v S1 := by
  unfold una
  simp only [ev_mb, ev_mo]
theorem ev_lsM {op : List D → Option R} {Q : R → Sta → Prop} : Ev (lsM op ga) S Q ↔ Ev ga S fun ds S1 => Opt (op ds) fun v => Q v S1 := by
  unfold lsM
  simp only [ev_mb, ev_mo]
theorem ev_tst {Q : Bool → Sta → Prop} : Ev (tst f) S Q ↔ Ev f S fun r S1 => Opt r.d.bool? fun b => Q b S1 := by
  unfold tst
  simp only [ev_mb, ev_mo]
theorem ev_andT {Q : Bool → Sta → Prop} : Ev (andT c d) S Q ↔ Ev c S fun b S1 => if b then Ev d S1 Q else Q false S1 := by
  show Ev (iteM c d (mp false)) S Q ↔ _
  simp only [ev_iteM, ev_mp]
theorem ev_orT {Q : Bool → Sta → Prop} : Ev (orT c d) S Q ↔ Ev c S fun b S1 => if b then Q true S1 else Ev d S1 Q := by
  show Ev (iteM c (mp true) d) S Q ↔ _
  simp only [ev_iteM, ev_mp]
theorem ev_notT {Q : Bool → Sta → Prop} : Ev (notT c) S Q ↔ Ev c S fun b S1 => Q (!b) S1 := by
  unfold notT
  simp only [ev_mb, ev_mp]
theorem ev_andV {Q : R → Sta → Prop} : Ev (andV f g) S Q ↔ Ev (tst f) S fun b S1 => if b then Ev g S1 Q else Q (.val (.bl false)) S1 := by
  show Ev (iteM (tst f) g (mp (.val (.bl false)))) S Q ↔ _
  simp only [ev_iteM, ev_mp]
theorem ev_orV {Q : R → Sta → Prop} : Ev (orV f g) S Q ↔ Ev (tst f) S fun b S1 => if b then Q (.val (.bl true)) S1 else Ev g S1 Q := by
  show Ev (iteM (tst f) (mp (.val (.bl true))) g) S Q ↔ _
  simp only [ev_iteM, ev_mp]
theorem ev_notV {Q : R → Sta → Prop} : Ev (notV f) S Q ↔ Ev (tst f) S fun b S1 => Q (.val (.bl (!b))) S1 := by
  unfold notV
  simp only [ev_mb, ev_mp]
theorem ev_aCons {Q : List D → Sta → Prop} : Ev (aCons f ga) S Q ↔ Ev f S fun r S1 => Ev ga S1 fun ds S2 => Q (r.d :: ds) S2 := by
  unfold aCons
  simp only [ev_mb, ev_mp]
theorem ev_if_bad {α : Type} {c : Prop} [Decidable c] {f : M α} {Q : α → Sta → Prop} : Ev (if c then f else fun _ => .bad) S Q ↔ c ∧ Ev f S Q := by
  by_cases h : c
  · rw [if_pos h]; exact ⟨fun z => ⟨h, z⟩, fun z => z.2⟩
  · rw [if_neg h]; exact ⟨fun z => by rw [Ev_def] at z; exact z.elim, fun z => absurd z.1 h⟩
theorem ev_mkT {Q : R → Sta → Prop} : Ev (mkT ga) S Q ↔ Ev ga S fun ds S1 => ds.length ≤ sizeLine ∧ Q (.val (.tup ds)) S1 := by
  unfold mkT
  simp only [ev_mb, ev_if_bad, ev_mp]
theorem ev_mkL {Q : R → Sta → Prop} : Ev (mkL ga) S Q ↔ Ev ga S fun ds S1 => ds.length ≤ sizeLine ∧ Q (.own (.lst ds)) S1 := by
  unfold mkL
  simp only [ev_mb, ev_if_bad, ev_mp]
/-! statements -/
def flK (P : Fl → Sta → Prop) (N : Sta → Prop) (fl : Fl) (S : Sta) : Prop := match fl with
  | .nx => N S
  | .ret r => P (.ret r) S
  | .brk => P .brk S
  | .cnt => P .cnt S
theorem ev_seqS {Q : Fl → Sta → Prop} : Ev (seqS s t) S Q ↔ Ev s S fun fl S1 => flK Q (fun S2 => Ev t S2 Q) fl S1 := by
  unfold seqS
  rw [ev_mb]
  simp only [Ev_def]
  cases s S with
  | ok fl S1 => cases fl <;> rfl
  | exc x S1 => rfl
  | bad => rfl
theorem flK_nx {P : Fl → Sta → Prop} {N : Sta → Prop} : flK P N .nx S ↔ N S := Iff.rfl
theorem flK_ret {P : Fl → Sta → Prop} {N : Sta → Prop} {r : R} : flK P N (.ret r) S ↔ P (.ret r) S := Iff.rfl
theorem flK_brk {P : Fl → Sta → Prop} {N : Sta → Prop} : flK P N .brk S ↔ P .brk S := Iff.rfl
theorem flK_cnt {P : Fl → Sta → Prop} {N : Sta → Prop} : flK P N .cnt S ↔ P .cnt S := Iff.rfl
theorem ev_exprS {Q : Fl → Sta → Prop} : Ev (exprS f) S Q ↔ Ev f S fun _ S1 => Q .nx S1 := by
  unfold exprS
  simp only [ev_mb, ev_mp]
theorem ev_retS {Q : Fl → Sta → Prop} : Ev (retS f) S Q ↔ Ev f S fun r S1 => Q (.ret r) S1 := by
  unfold retS
  simp only [ev_mb, ev_mp]
theorem ev_put {r : R} {Q : Unit → Sta → Prop} : Ev (put i r) S Q ↔ i < S.sl.length ∧ Q () { S with sl := S.sl.set i r.slot } := by
  by_cases hi : i < S.sl.length
  · have e : put i r S = .ok () { S with sl := S.sl.set i r.slot } := if_pos hi
    simp only [Ev_def]
    rw [e]
    exact ⟨fun z => ⟨hi, z⟩, fun z => z.2⟩
  · have e : put i r S = .bad := if_neg hi
    simp only [Ev_def]
    rw [e]
    exact ⟨fun z => z.elim, fun z => hi z.1⟩
theorem ev_setS {Q : Fl → Sta → Prop} : Ev (setS i f) S Q ↔ Ev f S fun r S1 => i < S1.sl.length ∧ Q .nx { S1 with sl := S1.sl.set i r.slot } := by
  unfold setS
  simp only [ev_mb, ev_mp, ev_put]
theorem ev_asgS {tg : R → M Unit} {Q : Fl → Sta → Prop} : Ev (asgS f tg) S Q ↔ Ev f S fun r S1 => Ev (tg r) S1 fun _ S2 => Q .nx S2 := by
  unfold asgS
  simp only [ev_mb, ev_mp]
theorem ev_ifS {Q : Fl → Sta → Prop} : Ev (ifS c s t) S Q ↔ Ev c S fun b S1 => if b then Ev s S1 Q else Ev t S1 Q := ev_iteM
theorem ev_parO {Q : Fl → Sta → Prop} : Ev (parO i j f g) S Q ↔ Ev f S fun r S1 => Ev g S1 fun r2 S2 => i < S2.sl.length ∧ j < S2.sl.length ∧ Q .nx { S2 with sl := (S2.sl.set i r.slot).set j r2.slot } := by
  unfold parO
  simp only [ev_mb, ev_mp, ev_put, List.length_set]
theorem ev_parS3 {Q : Fl → Sta → Prop} : Ev (parS3 i j l f g h) S Q ↔ Ev f S fun r S1 => Ev g S1 fun r2 S2 => Ev h S2 fun r3 S3 => i < S3.sl.length ∧ j < S3.sl.length ∧ l < S3.sl.length ∧ Q .nx { S3 with sl := ((S3.sl.set i (.val r.d)).set j (.val r2.d)).set l (.val r3.d) } := by
  unfold parS3
  simp only [ev_mb, ev_mp, ev_put, List.length_set, R.slot]
theorem ev_augS {op : D → D → Option R} {Q : Fl → Sta → Prop} : Ev (augS i op f) S Q ↔ Ev (rd i) S fun r S1 => Ev f S1 fun r2 S2 => Opt (op r.d r2.d) fun r3 => i < S2.sl.length ∧ Q .nx { S2 with sl := S2.sl.set i r3.slot } := by
  unfold augS
  simp only [ev_mb, ev_mp, ev_put, ev_mo]
/-! targets -/
theorem ev_tgN {r : R} {Q : Unit → Sta → Prop} : Ev (tgN i r) S Q ↔ i < S.sl.length ∧ Q () { S with sl := S.sl.set i r.slot } := ev_put
theorem ev_tgNil {Q : Unit → Sta → Prop} : Ev (tgNil []) S Q ↔ Q () S := by rw [Ev_def]; rfl
theorem ev_tgCons {t : R → M Unit} {ts : List D → M Unit} {d : D} {ds : List D} {Q : Unit → Sta → Prop} : Ev (tgCons t ts (d :: ds)) S Q ↔ Ev (t (.val d)) S fun _ S1 => Ev (ts ds) S1 Q := by
  show Ev (mb (t (.val d)) fun _ => ts ds) S Q ↔ _
  rw [ev_mb]
theorem ev_tgA {ts : List D → M Unit} {r : R} {Q : Unit → Sta → Prop} : Ev (tgA n ts r) S Q ↔ Opt r.d.parts fun ds => ds.length = n ∧ Ev (ts ds) S Q := by
  unfold tgA
  cases r.d.parts with
  | none => rw [Ev_def]; exact Iff.rfl
  | some ds => exact ev_if_bad
/-! names that lend what they own -/
def slotL (P : R → Prop) : Option Slot → Prop
  | some (.own (.lst xs)) => P (.val (.int xs.length))
  | some (.val d) => Opt (lenD [d]) P
  | _ => False
theorem ev_lenV {Q : R → Sta → Prop} : Ev (lenV i) S Q ↔ slotL (fun r => Q r S) S.sl[i]? := by
  simp only [Ev_def]
  unfold lenV slotL
  cases S.sl[i]? with
  | none => rfl
  | some s =>
    cases s with
    | un => rfl
    | val d => simp only [mo]; cases lenD [d] <;> rfl
    | own o => cases o <;> rfl
def slotX (P : R → Prop) (d2 : D) : Option Slot → Prop
  | some (.own (.lst xs)) => (match d2 with
    | .int n => Opt (L2.atI xs n) fun d => P (.val d)
    | _ => False)
  | some (.val d) => Opt (ixD d d2) P
  | _ => False
def slotU : Option Slot → Bool
  | some (.val _) => true
  | some (.own _) => true
  | _ => false
theorem ev_ixV {Q : R → Sta → Prop} : Ev (ixV i g) S Q ↔ slotU S.sl[i]? = true ∧ Ev g S fun r S1 => slotX (fun v => Q v S1) r.d S1.sl[i]? := by
  have body : ∀ r : R, ∀ S1 : Sta, Ev (fun S => match S.sl[i]? with
    | some (.own (.lst xs)) => (match r.d with
      | .int n => mo ((L2.atI xs n).map R.val) S
      | _ => .bad)
    | some (.val d) => mo (ixD d r.d) S
    | _ => Res.bad) S1 Q ↔ slotX (fun v => Q v S1) r.d S1.sl[i]? := fun r S1 => by
    simp only [Ev_def]
    unfold slotX
    dsimp only
    cases S1.sl[i]? with
    | none => rfl
    | some s =>
      cases s with
      | un => rfl
      | val d => simp only [mo]; cases ixD d r.d <;> rfl
      | own o =>
        cases o with
        | lst xs =>
          cases r.d with
          | int n => simp only [mo]; cases L2.atI xs n <;> rfl
          | _ => rfl
        | _ => rfl
  have key : Ev (mb g (fun r => fun S => match S.sl[i]? with
    | some (.own (.lst xs)) => (match r.d with
      | .int n => mo ((L2.atI xs n).map R.val) S
      | _ => .bad)
    | some (.val d) => mo (ixD d r.d) S
    | _ => Res.bad)) S Q ↔ Ev g S fun r S1 => slotX (fun v => Q v S1) r.d S1.sl[i]? := by
    rw [ev_mb]
    simp only [body]
  cases e : S.sl[i]? with
  | none => rw [Ev_bad (by unfold ixV; simp only [e])]; simp [slotU]
  | some s =>
    cases s with
    | un => rw [Ev_bad (by unfold ixV; simp only [e])]; simp [slotU]
    | val d => exact (Ev_congr (by unfold ixV; simp only [e] <;> rfl)).trans (key.trans (by simp [slotU]))
    | own o => exact (Ev_congr (by unfold ixV; simp only [e] <;> rfl)).trans (key.trans (by simp [slotU]))
def slotO (P : List D → Prop) : Option Slot → Prop
  | some (.own (.lst xs)) => P xs
  | _ => False
theorem ev_mutM {op : List D → List D → Option (List D × D)} {Q : R → Sta → Prop} : Ev (mutM i ga op) S Q ↔ slotO (fun _ => True) S.sl[i]? ∧ Ev ga S fun ds S1 => slotO (fun xs => Opt (op xs ds) fun p => Q (.val p.2) { S1 with sl := S1.sl.set i (.own (.lst p.1)) }) S1.sl[i]? := by
  have body : ∀ ds : List D, ∀ S1 : Sta, Ev (fun S => match S.sl[i]? with
    | some (.own (.lst xs)) => (match op xs ds with
      | some (ys, d) => Res.ok (R.val d) { S with sl := S.sl.set i (.own (.lst ys)) }
      | none => .bad)
    | _ => .bad) S1 Q ↔ slotO (fun xs => Opt (op xs ds) fun p => Q (.val p.2) { S1 with sl := S1.sl.set i (.own (.lst p.1)) }) S1.sl[i]? := fun ds S1 => by
    simp only [Ev_def]
    unfold slotO
    dsimp only
    cases S1.sl[i]? with
    | none => rfl
    | some s =>
      cases s with
      | un => rfl
      | val d => rfl
      | own o =>
        cases o with
        | lst xs => simp only; cases op xs ds with
          | none => rfl
          | some p => rfl
        | _ => rfl
  have key : Ev (mb ga (fun ds => fun S => match S.sl[i]? with
    | some (.own (.lst xs)) => (match op xs ds with
      | some (ys, d) => Res.ok (R.val d) { S with sl := S.sl.set i (.own (.lst ys)) }
      | none => .bad)
    | _ => .bad)) S Q ↔ Ev ga S fun ds S1 => slotO (fun xs => Opt (op xs ds) fun p => Q (.val p.2) { S1 with sl := S1.sl.set i (.own (.lst p.1)) }) S1.sl[i]? := by
    rw [ev_mb]
    simp only [body]
  cases e : S.sl[i]? with
  | none => rw [Ev_bad (by unfold mutM; simp only [e])]; simp [slotO]
  | some s =>
    cases s with
    | un => rw [Ev_bad (by unfold mutM; simp only [e])]; simp [slotO]
    | val d => rw [Ev_bad (by unfold mutM; simp only [e])]; simp [slotO]
    | own o =>
      cases o with
      | lst xs => exact (Ev_congr (by unfold mutM; simp only [e]; first | done | rfl)).trans (key.trans (by simp [slotO]))
      | _ => rw [Ev_bad (by unfold mutM; simp only [e])]; simp [slotO]
/-! slices, joins -/
theorem ev_oSome {Q : Option Int → Sta → Prop} : Ev (oSome f) S Q ↔ Ev f S fun r S1 => Opt r.d.int? fun i => Q (some i) S1 := by
  unfold oSome
  rw [ev_mb]
  have : ∀ (r : R) S1, Ev (match r.d with
    | .int i => mp (some i)
    | _ => fun _ => .bad) S1 Q ↔ Opt r.d.int? fun i => Q (some i) S1 := fun r S1 => by
    rw [Ev_def]
    cases r.d <;> rfl
  exact ⟨fun h => h.mono fun r S1 q => (this r S1).mp q, fun h => h.mono fun r S1 q => (this r S1).mpr q⟩
theorem ev_slM {op : D → Option Int → Option Int → Option R} {l u : M (Option Int)} {Q : R → Sta → Prop} : Ev (slM op f l u) S Q ↔ Ev f S fun r S1 => Ev l S1 fun lo S2 => Ev u S2 fun hi S3 => Opt (op r.d lo hi) fun v => Q v S3 := by
  unfold slM
  simp only [ev_mb, ev_mo]
theorem ev_joinM {Q : R → Sta → Prop} : Ev (joinM f g) S Q ↔ Ev f S fun r S1 => Opt r.d.str? fun a => Ev g S1 fun r2 S2 => Opt (joinD a r2.d) fun v => Q v S2 := by
  unfold joinM
  rw [ev_mb]
  have : ∀ (r : R) S1, Ev (match r.d with
    | .str a => mb g fun r2 => mo (joinD a r2.d)
    | _ => fun _ => .bad) S1 Q ↔ Opt r.d.str? fun a => Ev g S1 fun r2 S2 => Opt (joinD a r2.d) fun v => Q v S2 := fun r S1 => by
    cases r.d with
    | str a => show Ev (mb g fun r2 => mo (joinD a r2.d)) S1 Q ↔ _; simp only [ev_mb, ev_mo]; exact Iff.rfl
    | _ => rw [Ev_def]; rfl
  exact ⟨fun h => h.mono fun r S1 q => (this r S1).mp q, fun h => h.mono fun r S1 q => (this r S1).mpr q⟩
def D.lst? : D → Option (List D)
  | .lst ds => some ds
  | _ => none
theorem ev_indexM {Q : R → Sta → Prop} : Ev (indexM f g) S Q ↔ Ev f S fun r S1 => Opt r.d.lst? fun ds => Ev g S1 fun r2 S2 => Opt (indexD (.lst ds) r2.d) fun v => Q v S2 := by
  unfold indexM
  rw [ev_mb]
  have : ∀ (r : R) S1, Ev (match r.d with
    | .lst ds => mb g fun r2 => mo (indexD (.lst ds) r2.d)
    | _ => fun _ => .bad) S1 Q ↔ Opt r.d.lst? fun ds => Ev g S1 fun r2 S2 => Opt (indexD (.lst ds) r2.d) fun v => Q v S2 := fun r S1 => by
    cases r.d with
    | lst a => show Ev (mb g fun r2 => mo (indexD (.lst a) r2.d)) S1 Q ↔ _; simp only [ev_mb, ev_mo]; exact Iff.rfl
    | _ => rw [Ev_def]; rfl
  exact ⟨fun h => h.mono fun r S1 q => (this r S1).mp q, fun h => h.mono fun r S1 q => (this r S1).mpr q⟩
/-! calls -/
inductive fres (P : R → DSt → Prop) (x : FRes) : Prop
  | of (r : R) (st : DSt) (e : x = .ok r st) (q : P r st) : fres P x
theorem fres_def {P : R → DSt → Prop} {x : FRes} : fres P x = (match x with
  | .ok r st => P r st
  | _ => False) := by
  apply propext
  constructor
  · rintro ⟨r, st, e, q⟩
    rw [e]; exact q
  · intro h
    cases e : x with
    | ok r st => rw [e] at h; exact ⟨r, st, rfl, h⟩
    | exc y st => rw [e] at h; exact h.elim
    | bad => rw [e] at h; exact h.elim
theorem ev_callM {fn : Fn} {Q : R → Sta → Prop} : Ev (callM n fn ga) S Q ↔ Ev ga S fun ds S1 => ds.length = n ∧ fres (fun r st' => stOk S1.st st' = true ∧ Q r { S1 with st := st' }) (fn ds S1.st) := by
  unfold callM
  rw [ev_mb]
  have : ∀ (ds : List D) S1, Ev (fun S => if ds.length = n then (match fn ds S.st with
    | .ok r st' => if stOk S.st st' then Res.ok r { S with st := st' } else .bad
    | _ => .bad) else .bad) S1 Q ↔ ds.length = n ∧ fres (fun r st' => stOk S1.st st' = true ∧ Q r { S1 with st := st' }) (fn ds S1.st) := fun ds S1 => by
    simp only [Ev_def]
    by_cases hl : ds.length = n
    · rw [if_pos hl]
      cases fn ds S1.st with
      | ok r st' =>
        simp only [fres_def]
        cases stOk S1.st st' <;> simp [hl]
      | exc x st' => simp [fres_def]
      | bad => simp [fres_def]
    · rw [if_neg hl]; simp [hl]
  exact ⟨fun h => h.mono fun r S1 q => (this r S1).mp q, fun h => h.mono fun r S1 q => (this r S1).mpr q⟩
theorem ev_kwM {p q : Nat} {pm : List Nat} {gk : M (List D)} {Q : List D → Sta → Prop} : Ev (kwM p q pm ga gk) S Q ↔ Ev ga S fun us S1 => Ev gk S1 fun ws S2 => Q (permK .non p q pm us ws) S2 := by
  unfold kwM
  simp only [ev_mb, ev_mp]
/-- what a def gives, by its body -/
theorem fn_of {N : Nat} {b : M Fl} {ds : List D} {st : DSt} {P : R → DSt → Prop} (hl : ds.length = n)
    (h : Ev b (initS N ds st) fun fl S => match fl with
      | .nx => stOk st S.st = true ∧ P (.val .non) S.st
      | .ret r => stOk st S.st = true ∧ P r S.st
      | _ => False) : fres P (fnB n N b ds st) := by
  obtain ⟨fl, S, e, q⟩ := h.elim
  rw [fres_def]
  unfold fnB runB
  rw [if_pos hl, e]
  cases fl with
  | nx => simp only at q ⊢; rw [if_pos q.1]; exact q.2
  | ret r => simp only at q ⊢; rw [if_pos q.1]; exact q.2
  | brk => exact q.elim
  | cnt => exact q.elim
theorem fres_eq {x : FRes} {r : R} {st : DSt} (h : fres (fun r' st' => r' = r ∧ st' = st) x) : x = .ok r st := by
  obtain ⟨r', st', e, rfl, rfl⟩ := h
  exact e
theorem fres_ex {x : FRes} {P : R → DSt → Prop} (h : fres P x) : ∃ r st, x = .ok r st ∧ P r st := by
  obtain ⟨r', st', e, q⟩ := h
  exact ⟨r', st', e, q⟩
theorem fres_ok {r : R} {st : DSt} {P : R → DSt → Prop} : fres P (.ok r st) ↔ P r st := by rw [fres_def]
theorem fres_mono {x : FRes} {P P' : R → DSt → Prop} (h : fres P x) (m : ∀ r st, P r st → P' r st) : fres P' x := by
  obtain ⟨r', st', e, q⟩ := h
  exact ⟨r', st', e, m _ _ q⟩
/-! loops -/
theorem ev_while {Q : Fl → Sta → Prop} (I : Nat → Sta → Prop) (n : Nat) (h0 : I n S)
    (hs : ∀ n S, I n S → Ev c S fun b S1 => if b then Ev s S1 fun fl S2 => (match fl with
      | .nx => ∃ m, m < n ∧ I m S2
      | .cnt => ∃ m, m < n ∧ I m S2
      | .brk => Q .nx S2
      | .ret r => Q (.ret r) S2) else Q .nx S1) : Ev (whileS c s) S Q := by
  induction n using Nat.strongRecOn generalizing S with
  | _ n ih =>
    rw [whileS_eq, ev_mb]
    refine (hs n S h0).mono fun b S1 q => ?_
    cases b with
    | false => rw [if_neg (by decide)] at q ⊢; exact ev_mp.mpr q
    | true =>
      simp only [if_true] at q ⊢
      rw [ev_mb]
      refine q.mono fun fl S2 q2 => ?_
      cases fl with
      | nx => obtain ⟨m, hm, hI⟩ := q2; exact ih m hm hI
      | cnt => obtain ⟨m, hm, hI⟩ := q2; exact ih m hm hI
      | brk => exact ev_mp.mpr q2
      | ret r => exact ev_mp.mpr q2
theorem ev_forL {tg : R → M Unit} {Q : Fl → Sta → Prop} (I : List D → Sta → Prop) {ds : List D} (h0 : I ds S)
    (hs : ∀ d r S, I (d :: r) S → Ev (tg (.val d)) S fun _ S1 => Ev s S1 fun fl S2 => (match fl with
      | .nx => I r S2
      | .cnt => I r S2
      | .brk => Q .nx S2
      | .ret x => Q (.ret x) S2)) (he : ∀ S, I [] S → Q .nx S) : Ev (forL tg s ds) S Q := by
  induction ds generalizing S with
  | nil => exact ev_mp.mpr (he S h0)
  | cons d r ih =>
    unfold forL
    rw [ev_mb]
    refine (hs d r S h0).mono fun _ S1 q => ?_
    rw [ev_mb]
    refine q.mono fun fl S2 q2 => ?_
    cases fl with
    | nx => exact ih q2
    | cnt => exact ih q2
    | brk => exact ev_mp.mpr q2
    | ret r => exact ev_mp.mpr q2
theorem ev_forS {it : M (List D)} {tg : R → M Unit} {Q : Fl → Sta → Prop} : Ev (forS it tg s) S Q ↔ Ev it S fun ds S1 => Ev (forL tg s ds) S1 Q := ev_mb
theorem ev_anyI {Q : List D → Sta → Prop} : Ev (anyI f) S Q ↔ Ev f S fun r S1 => Opt r.d.items fun ds => Q ds S1 := by
  unfold anyI
  simp only [ev_mb, ev_mo]
/-- a comprehension: I: what is left, what is made, the state (the block's names forgotten) -/
theorem ev_compM {vs : List Nat} {it : M (List D)} {tg : R → M Unit} {tt : M Bool} {te : M R} {Q : R → Sta → Prop}
    (h : Ev it S fun ds S1 => ∃ I : List D → List D → Sta → Prop, I ds [] { S1 with sl := wipeL S1.sl vs } ∧
      (∀ d r acc S, I (d :: r) acc S → Ev (tg (.val d)) S fun _ S2 => Ev tt S2 fun b S3 => if b then Ev te S3 fun v S4 => acc.length < sizeLine ∧ I r (acc ++ [v.d]) { S4 with sl := wipeL S4.sl vs } else I r acc { S3 with sl := wipeL S3.sl vs }) ∧
      ∀ acc S, I [] acc S → Q (.own (.lst acc)) { S with sl := backL S1.sl S.sl vs }) : Ev (compM vs it tg tt te) S Q := by
  unfold compM
  rw [ev_mb]
  refine h.mono fun ds S1 ⟨I, h0, hs, he⟩ => ?_
  have go : ∀ (ds acc : List D) (S : Sta), I ds acc S → ∃ acc' S', compL vs tg tt te ds acc S = .ok acc' S' ∧ I [] acc' S' := by
    intro ds
    induction ds with
    | nil => exact fun acc S hI => ⟨acc, S, rfl, hI⟩
    | cons d r ih =>
      intro acc S hI
      obtain ⟨u, S2, e2, q2⟩ := (hs d r acc S hI).elim
      obtain ⟨b, S3, e3, q3⟩ := q2.elim
      cases b with
      | false =>
        simp only [Bool.false_eq_true, if_false] at q3
        obtain ⟨acc', S', e, q⟩ := ih acc _ q3
        refine ⟨acc', S', ?_, q⟩
        unfold compL mbx
        simp only [e2, e3]
        exact e
      | true =>
        simp only [if_true] at q3
        obtain ⟨v, S4, e4, hz, q4⟩ := q3.elim
        obtain ⟨acc', S', e, q⟩ := ih _ _ q4
        refine ⟨acc', S', ?_, q⟩
        unfold compL mbx
        simp only [e2, e3, if_true, e4]
        rw [if_pos hz]
        exact e
  obtain ⟨acc', S', e, q⟩ := go ds [] _ h0
  simp only [Ev_def]
  rw [e]
  exact he acc' S' q
/-! the deal -/
theorem ev_onDeal {α : Type} {k : List Int → Int → M α} {Q : α → Sta → Prop} {cs : List Int} {m : Int} (e : S.sl[i]? = some (.val .deal)) (et : S.st = some (cs, m)) : Ev (onDeal i k) S Q ↔ Ev (k cs m) S Q := by
  simp only [Ev_def]
  unfold onDeal
  rw [e, et]
end
/-! ### operations on data -/
section
variable {i j : Int} {a b : Str} {xs ys : List D}
theorem addD_i : addD (.int i) (.int j) = some (.val (.int (i + j))) := rfl
theorem addD_s : addD (.str a) (.str b) = if a.length + b.length ≤ sizeLine then some (.val (.str (a ++ b))) else none := rfl
theorem addD_t : addD (.tup xs) (.tup ys) = if xs.length + ys.length ≤ sizeLine then some (.val (.tup (xs ++ ys))) else none := rfl
theorem addD_l : addD (.lst xs) (.lst ys) = if xs.length + ys.length ≤ sizeLine then some (.own (.lst (xs ++ ys))) else none := rfl
theorem iaddD_i : iaddD (.int i) (.int j) = some (.val (.int (i + j))) := rfl
theorem subD_i : subD (.int i) (.int j) = some (.val (.int (i - j))) := rfl
theorem negD_i : negD (.int i) = some (.val (.int (-i))) := rfl
theorem modD_i : modD (.int i) (.int j) = if decide (0 < j) = true then some (.val (.int (i % j))) else none := rfl
theorem fdivD_i : fdivD (.int i) (.int j) = if (decide (0 < j) && decide (j.natAbs.log2 < 9000)) = true then some (.val (.int (i / j))) else none := rfl
theorem powD_i : powD (.int i) (.int j) = if (decide (0 ≤ j) && decide (j ≤ 1000000) && decide (i.natAbs < 2 ^ 64)) = true then some (.val (.int (i ^ j.toNat))) else none := rfl
theorem mulTD_i : mulTD (.int i) (.int j) = if i.natAbs.log2 + j.natAbs.log2 < 1000000 then some (.val (.int (i * j))) else none := rfl
theorem ltD_i : ltD (.int i) (.int j) = some (.val (.bl (decide (i < j)))) := rfl
theorem leD_i : leD (.int i) (.int j) = some (.val (.bl (decide (i ≤ j)))) := rfl
theorem gtD_i : gtD (.int i) (.int j) = some (.val (.bl (decide (j < i)))) := rfl
theorem geD_i : geD (.int i) (.int j) = some (.val (.bl (decide (j ≤ i)))) := rfl
theorem eqv_int : PyData.eqv (.int i) (.int j) = decide (i = j) := by simp only [PyData.eqv]; rfl
theorem eqD_i : eqD (.int i) (.int j) = some (.val (.bl (decide (i = j)))) := by
  have : eqvD (.int i) (.int j) = some (PyData.eqv (.int i) (.int j)) := rfl
  unfold eqD
  rw [this, eqv_int]
  rfl
theorem neD_i : neD (.int i) (.int j) = some (.val (.bl (!decide (i = j)))) := by
  have : eqvD (.int i) (.int j) = some (PyData.eqv (.int i) (.int j)) := rfl
  unfold neD
  rw [this, eqv_int]
  rfl
theorem lenD_t : lenD [.tup xs] = some (.val (.int xs.length)) := rfl
theorem lenD_l : lenD [.lst xs] = some (.val (.int xs.length)) := rfl
theorem lenD_s : lenD [.str a] = if a.length ≤ sizeLine then some (.val (.int a.length)) else none := rfl
theorem ixD_t : ixD (.tup xs) (.int i) = (L2.atI xs i).map .val := rfl
theorem ixD_l : ixD (.lst xs) (.int i) = (L2.atI xs i).map .val := rfl
theorem ixD_s : ixD (.str a) (.int i) = if a.length ≤ sizeLine then (L2.atI a.cps.toList i).map fun c => .val (.str ⟨#[c]⟩) else none := rfl
theorem int1D_i : int1D [.int i] = some (.val (.int i)) := rfl
theorem absD_i : absD [.int i] = some (.val (.int (if i < 0 then -i else i))) := rfl
theorem listD_l : listD [.lst xs] = some (.own (.lst xs)) := rfl
theorem listD_t : listD [.tup xs] = some (.own (.lst xs)) := rfl
theorem tupleD_l : tupleD [.lst xs] = some (.val (.tup xs)) := rfl
theorem tupleD_t : tupleD [.tup xs] = some (.val (.tup xs)) := rfl
theorem appendF_1 {y : D} : appendF xs [y] = if xs.length < sizeLine then some (xs ++ [y], .non) else none := rfl
theorem slD_t {lo hi : Option Int} : slD (.tup xs) lo hi = some (.val (.tup (cutL xs lo hi))) := rfl
theorem slD_l {lo hi : Option Int} : slD (.lst xs) lo hi = some (.own (.lst (cutL xs lo hi))) := rfl
theorem bool_bl {b : Bool} : D.bool? (.bl b) = some b := rfl
theorem int_int : D.int? (.int i) = some i := rfl
theorem str_str : D.str? (.str a) = some a := rfl
theorem lst_lst : D.lst? (.lst xs) = some xs := rfl
theorem items_l : D.items (.lst xs) = some xs := rfl
theorem items_t : D.items (.tup xs) = some xs := rfl
theorem items_s : D.items (.str a) = some (signsD a) := rfl
theorem parts_l : D.parts (.lst xs) = some xs := rfl
theorem parts_t : D.parts (.tup xs) = some xs := rfl
theorem d_val {d : D} : R.d (.val d) = d := rfl
theorem d_own {xs : List D} : R.d (.own (.lst xs)) = .lst xs := rfl
theorem od_lst {xs : List D} : OD.d (.lst xs) = .lst xs := rfl
theorem slot_val {d : D} : R.slot (.val d) = .val d := rfl
theorem slot_own {o : OD} : R.slot (.own o) = .own o := rfl
theorem stOk_self (st : DSt) : stOk st st = true := by cases st <;> rfl
theorem isD_non : isD .non .non = some (.val (.bl true)) := rfl
theorem slotR_val {P : R → Sta → Prop} {S : Sta} {n : Nat} {d : D} : slotR P S n (some (.val d)) ↔ P (.val d) S := Iff.rfl
theorem slotR_own {P : R → Sta → Prop} {S : Sta} {n : Nat} {o : OD} : slotR P S n (some (.own o)) ↔ P (.val o.d) { S with sl := S.sl.set n (.val o.d) } := Iff.rfl
theorem slotM_val {P : R → Sta → Prop} {S : Sta} {n : Nat} {d : D} : slotM P S n (some (.val d)) ↔ P (.val d) S := Iff.rfl
theorem slotM_own {P : R → Sta → Prop} {S : Sta} {n : Nat} {o : OD} : slotM P S n (some (.own o)) ↔ P (.own o) { S with sl := S.sl.set n .un } := Iff.rfl
theorem slotL_own {P : R → Prop} {xs : List D} : slotL P (some (.own (.lst xs))) ↔ P (.val (.int xs.length)) := Iff.rfl
theorem slotL_val {P : R → Prop} {d : D} : slotL P (some (.val d)) ↔ Opt (lenD [d]) P := Iff.rfl
theorem slotX_own {P : R → Prop} {xs : List D} : slotX P (.int i) (some (.own (.lst xs))) ↔ Opt (L2.atI xs i) fun d => P (.val d) := Iff.rfl
theorem slotX_val {P : R → Prop} {d e : D} : slotX P e (some (.val d)) ↔ Opt (ixD d e) P := Iff.rfl
theorem slotU_own {o : OD} : slotU (some (.own o)) = true := rfl
theorem slotU_val {d : D} : slotU (some (.val d)) = true := rfl
theorem slotO_own {P : List D → Prop} {xs : List D} : slotO P (some (.own (.lst xs))) ↔ P xs := Iff.rfl
end
end DD

end
section
set_option Elab.async false
set_option Elab.async false
set_option linter.all false
set_option maxRecDepth 100000
set_option maxHeartbeats 2000000
set_option autoImplicit false
namespace DD
open PySem
/-! ### reading the deal -/
section
variable {sl : List Slot} {cs : List Int} {m : Int} {i : Nat} {f : M R}
theorem ev_onDeal_iff {α : Type} {k : List Int → Int → M α} {S : Sta} {Q : α → Sta → Prop} : Ev (onDeal i k) S Q ↔ ∃ cs m, S.sl[i]? = some (.val .deal) ∧ S.st = some (cs, m) ∧ Ev (k cs m) S Q := by
  constructor
  · intro h
    simp only [Ev_def] at h
    unfold onDeal at h
    split at h
    · rename_i a1 a2 e
      split at e
      · rename_i cs m e1 e2
        exact ⟨cs, m, e1, e2, Ev.intro e h⟩
      · cases e
    · exact h.elim
  · rintro ⟨cs, m, e1, e2, h⟩
    rw [ev_onDeal e1 e2]; exact h
def dealK (S : Sta) (i : Nat) (P : List Int → Int → Prop) : Prop := ∃ cs m, S.sl[i]? = some (.val .deal) ∧ S.st = some (cs, m) ∧ P cs m
theorem dealK_of {P : List Int → Int → Prop} : dealK ⟨sl, some (cs, m)⟩ i P ↔ sl[i]? = some (.val .deal) ∧ P cs m := by
  constructor
  · rintro ⟨cs', m', e1, e2, h⟩
    cases e2
    exact ⟨e1, h⟩
  · rintro ⟨e1, h⟩
    exact ⟨cs, m, e1, rfl, h⟩
theorem ev_setDeal {S : Sta} {Q : Fl → Sta → Prop} : Ev (setDeal i f) S Q ↔ Ev f S fun r S1 => dealK S1 i fun cs m => Opt r.d.int? fun c => Q .nx { S1 with st := some (cs, c) } := by
  unfold setDeal
  rw [ev_mb]
  have key : ∀ (r : R) (S1 : Sta), Ev (onDeal i fun cs m => fun S => match r.d with
    | .int c => Res.ok Fl.nx { S with st := some (cs, c) }
    | _ => .bad) S1 Q ↔ dealK S1 i fun cs m => Opt r.d.int? fun c => Q .nx { S1 with st := some (cs, c) } := fun r S1 => by
    rw [ev_onDeal_iff]
    unfold dealK
    have e : ∀ cs, Ev (fun S => match r.d with
      | .int c => Res.ok Fl.nx { S with st := some (cs, c) }
      | _ => .bad) S1 Q ↔ Opt r.d.int? fun c => Q .nx { S1 with st := some (cs, c) } := fun cs => by
      simp only [Ev_def]
      cases r.d <;> rfl
    constructor
    · rintro ⟨cs, m, e1, e2, h⟩; exact ⟨cs, m, e1, e2, (e cs).mp h⟩
    · rintro ⟨cs, m, e1, e2, h⟩; exact ⟨cs, m, e1, e2, (e cs).mpr h⟩
  exact ⟨fun h => h.mono fun r S1 q => (key r S1).mp q, fun h => h.mono fun r S1 q => (key r S1).mpr q⟩
theorem ev_appDeal {S : Sta} {Q : R → Sta → Prop} : Ev (appDeal i f) S Q ↔ dealK S i fun _ _ => Ev f S fun r S1 => dealK S1 i fun cs m => Opt r.d.int? fun c => cs.length < sizeLine ∧ Q (.val .non) { S1 with st := some (cs ++ [c], m) } := by
  unfold appDeal
  rw [ev_onDeal_iff]
  have key : ∀ (r : R) (S1 : Sta), Ev (onDeal i fun cs m => fun S => match r.d with
    | .int c => if cs.length < sizeLine then Res.ok (R.val D.non) { S with st := some (cs ++ [c], m) } else .bad
    | _ => .bad) S1 Q ↔ dealK S1 i fun cs m => Opt r.d.int? fun c => cs.length < sizeLine ∧ Q (.val .non) { S1 with st := some (cs ++ [c], m) } := fun r S1 => by
    rw [ev_onDeal_iff]
    unfold dealK
    have e : ∀ (cs : List Int) (m : Int), Ev (fun S => match r.d with
      | .int c => if cs.length < sizeLine then Res.ok (R.val D.non) { S with st := some (cs ++ [c], m) } else .bad
      | _ => .bad) S1 Q ↔ Opt r.d.int? fun c => cs.length < sizeLine ∧ Q (.val .non) { S1 with st := some (cs ++ [c], m) } := fun cs m => by
      simp only [Ev_def]
      cases r.d with
      | int c =>
        dsimp only
        by_cases hz : cs.length < sizeLine
        · rw [if_pos hz]; exact ⟨fun q => ⟨hz, q⟩, fun q => q.2⟩
        · rw [if_neg hz]; exact ⟨fun q => q.elim, fun q => hz q.1⟩
      | _ => rfl
    constructor
    · rintro ⟨cs, m, e1, e2, h⟩; exact ⟨cs, m, e1, e2, (e cs m).mp h⟩
    · rintro ⟨cs, m, e1, e2, h⟩; exact ⟨cs, m, e1, e2, (e cs m).mpr h⟩
  unfold dealK
  constructor
  · rintro ⟨cs, m, e1, e2, h⟩
    rw [ev_mb] at h
    exact ⟨cs, m, e1, e2, h.mono fun r S1 q => (key r S1).mp q⟩
  · rintro ⟨cs, m, e1, e2, h⟩
    refine ⟨cs, m, e1, e2, ?_⟩
    rw [ev_mb]
    exact h.mono fun r S1 q => (key r S1).mpr q
theorem ev_lastD {S : Sta} {Q : R → Sta → Prop} : Ev (lastDeal i) S Q ↔ dealK S i fun cs _ => Opt (L2.atI cs (-1)) fun c => Q (.val (.int c)) S := by
  unfold lastDeal dealK
  rw [ev_onDeal_iff]
  simp only [ev_mo, opt_map]
theorem ev_lenD {S : Sta} {Q : R → Sta → Prop} : Ev (lenDeal i) S Q ↔ dealK S i fun cs _ => Q (.val (.int cs.length)) S := by
  unfold lenDeal dealK
  rw [ev_onDeal_iff]
  simp only [ev_mp]
theorem ev_mixD {S : Sta} {Q : R → Sta → Prop} : Ev (mixDeal i) S Q ↔ dealK S i fun _ m => Q (.val (.int m)) S := by
  unfold mixDeal dealK
  rw [ev_onDeal_iff]
  simp only [ev_mp]
theorem ev_popD {S : Sta} {Q : R → Sta → Prop} : Ev (popDeal i) S Q ↔ dealK S i fun cs m => Opt cs[cs.length - 1]? fun c => Q (.val (.int c)) { S with st := some (cs.dropLast, m) } := by
  unfold popDeal dealK
  rw [ev_onDeal_iff]
  have e : ∀ (cs : List Int) (m : Int), Ev (fun S => match cs[cs.length - 1]? with
    | some c => Res.ok (R.val (D.int c)) { S with st := some (cs.dropLast, m) }
    | none => .bad) S Q ↔ Opt cs[cs.length - 1]? fun c => Q (.val (.int c)) { S with st := some (cs.dropLast, m) } := fun cs m => by
    simp only [Ev_def]
    cases cs[cs.length - 1]? <;> rfl
  constructor
  · rintro ⟨cs, m, e1, e2, h⟩; exact ⟨cs, m, e1, e2, (e cs m).mp h⟩
  · rintro ⟨cs, m, e1, e2, h⟩; exact ⟨cs, m, e1, e2, (e cs m).mpr h⟩
end
/-! ### data of plain kinds -/
mutual
def D.plain : D → Bool
  | .non => true
  | .bl _ => true
  | .int _ => true
  | .str x => SeqAt.shaped (.str x)
  | .tup ds => plains ds
  | _ => false
def plains : List D → Bool
  | [] => true
  | d :: ds => d.plain && plains ds
end
mutual
def D.nodes : D → Nat
  | .tup ds => nodesL ds + 1
  | _ => 1
def nodesL : List D → Nat
  | [] => 0
  | d :: ds => d.nodes + nodesL ds
end
theorem nodes_pos : ∀ d : D, 0 < d.nodes
  | .tup ds => by simp only [D.nodes]; omega
  | .non | .bl _ | .int _ | .str _ | .ty _ | .adr _ | .lst _ | .obj _ _ _ | .dct _ _ | .dctT _ _ | .scr _ | .deal => by simp only [D.nodes]; omega
theorem nodesL_len : ∀ ds : List D, ds.length ≤ nodesL ds
  | [] => Nat.le_refl _
  | d :: ds => by
    have h1 := nodes_pos d
    have h2 := nodesL_len ds
    simp only [nodesL, List.length_cons]; omega
theorem nodesL_app : ∀ ds es : List D, nodesL (ds ++ es) = nodesL ds + nodesL es
  | [], es => by simp only [List.nil_append, nodesL]; omega
  | d :: ds, es => by simp only [List.cons_append, nodesL, nodesL_app ds es]; omega
theorem plains_app : ∀ ds es : List D, plains (ds ++ es) = (plains ds && plains es)
  | [], es => by simp [plains]
  | d :: ds, es => by simp [plains, plains_app ds es, Bool.and_assoc]
theorem tyN_plain {d : D} (h : d.plain = true) : ∃ t, d.tyN = some t := by
  cases d <;> simp_all [D.plain, D.tyN]
/-- pairs of the same -/
def twin (ds : List D) : List D := ds.map fun d => .tup [d, d]
theorem zip_twin (ds : List D) : zipD ds ds = twin ds := by
  unfold zipD twin
  induction ds with
  | nil => rfl
  | cons d ds ih => simp only [List.zip_cons_cons, List.map_cons, ih]
theorem isi_adr {cs : List Addr} {d : D} {C : Addr} (h : d.plain = true) (hC : C ∈ cs) : isi1 cs d (.adr C) = some false := by
  obtain ⟨t, e⟩ := tyN_plain h
  simp only [isi1, if_pos hC, e]
end DD

end
open PySem DD
local macro_rules | `(tactic| walk_at "dx") => `(tactic| simp only [ev_mp, ev_mb, ev_mo, ev_rd, ev_rdm, ev_bin, ev_una, ev_lsM, ev_tst, ev_andT, ev_orT, ev_notT, ev_andV, ev_orV, ev_notV, ev_aCons, ev_mkT, ev_mkL, ev_iteM, ev_seqS, flK_nx, flK_ret, flK_brk, flK_cnt, ev_exprS, ev_retS, ev_setS, ev_asgS, ev_ifS, ev_parO, ev_parS3, ev_augS, ev_tgN, ev_tgNil, ev_tgCons, ev_tgA, ev_lenV, ev_ixV, ev_mutM, ev_oSome, ev_slM, ev_joinM, ev_indexM, ev_callM, ev_kwM, ev_forS, ev_anyI, opt_some, opt_ifo, opt_map, opt_bind,
  addD_i, addD_s, addD_t, addD_l, iaddD_i, subD_i, negD_i, modD_i, fdivD_i, powD_i, mulTD_i, ltD_i, leD_i, gtD_i, geD_i, eqD_i, neD_i, lenD_t, lenD_l, lenD_s, ixD_t, ixD_l, ixD_s, int1D_i, absD_i, listD_l, listD_t, tupleD_l, tupleD_t, appendF_1, slD_t, slD_l, bool_bl, int_int, str_str, lst_lst, items_l, items_t, items_s, parts_l, parts_t, d_val, d_own, od_lst, slot_val, slot_own, stOk_self, isD_non,
  slotR_val, slotR_own, slotM_val, slotM_own, slotL_own, slotL_val, slotX_own, slotX_val, slotU_own, slotU_val, slotO_own, fres_ok,
  List.getElem?_cons_zero, List.getElem?_cons_succ, List.set_cons_zero, List.set_cons_succ, List.length_cons, List.length_nil, List.length_append, true_and, and_true, decide_eq_true_eq, Bool.and_eq_true, decide_true, Bool.not_eq_true', decide_eq_false_iff_not, Nat.reduceAdd, Nat.reduceLT, Nat.lt_add_left_iff_pos, if_true, reduceIte, Nat.zero_add, Bool.false_eq_true, if_false])
local macro_rules | `(tactic| walk_at "dxd") => `(tactic| (walk_at "dx"; simp only [ev_lastD, ev_lenD, ev_mixD, ev_popD, ev_appDeal, ev_setDeal, dealK_of, List.getElem?_cons_zero, true_and]; walk_at "dx"))
section
set_option Elab.async false
set_option Elab.async false
set_option linter.all false
set_option maxRecDepth 100000
set_option maxHeartbeats 2000000
set_option autoImplicit false
namespace DD
open PySem
/-! ### comprehensions of plain shapes -/
section
variable {S S0 : Sta} {i : Nat} {it : M (List D)} {te : M R} {tt : M Bool} {Q : R → Sta → Prop} {ds : List D}
/-- [g d for d in ds if p d] -/
theorem ev_filt {g : D → D} {p : D → Bool} (hi : i < S.sl.length) (hit : Ev it S0 fun l S1 => l = ds ∧ S1 = S) (hz : ds.length ≤ sizeLine)
    (htt : ∀ d ∈ ds, Ev tt { S with sl := S.sl.set i (.val d) } fun b S' => b = p d ∧ S' = { S with sl := S.sl.set i (.val d) })
    (hte : ∀ d ∈ ds, p d = true → Ev te { S with sl := S.sl.set i (.val d) } fun v S' => v.d = g d ∧ S' = { S with sl := S.sl.set i (.val d) })
    (h : Q (.own (.lst ((ds.filter p).map g))) { S with sl := backL S.sl (S.sl.set i .un) [i] }) : Ev (compM [i] it (tgN i) tt te) S0 Q := by
  refine ev_compM (hit.mono fun l S1 ⟨e1, e2⟩ => ?_)
  subst e1 e2
  refine ⟨fun r acc S' => ∃ done, done ++ r = l ∧ acc = (done.filter p).map g ∧ S' = { S1 with sl := S1.sl.set i .un }, ⟨[], rfl, rfl, rfl⟩, ?_, ?_⟩
  · rintro d r acc S' ⟨done, hd, rfl, rfl⟩
    have hm : d ∈ l := by rw [← hd]; simp
    have hlen : done.length + (r.length + 1) = l.length := by rw [← hd]; simp
    rw [ev_tgN]
    refine ⟨by simpa using hi, ?_⟩
    have e3 : (⟨(S1.sl.set i .un).set i (R.val d).slot, S1.st⟩ : Sta) = { S1 with sl := S1.sl.set i (.val d) } := by rw [List.set_set]; rfl
    show Ev tt ⟨(S1.sl.set i .un).set i (R.val d).slot, S1.st⟩ _
    rw [e3]
    refine (htt d hm).mono fun b S2 ⟨e4, e5⟩ => ?_
    subst e4 e5
    cases hp : p d with
    | false =>
      rw [if_neg (by simp)]
      exact ⟨done ++ [d], by rw [← hd]; simp, by simp [hp], by simp [wipeL]⟩
    | true =>
      rw [if_pos rfl]
      refine (hte d hm hp).mono fun v S3 ⟨e6, e7⟩ => ?_
      subst e7
      refine ⟨?_, done ++ [d], by rw [← hd]; simp, by simp [hp, e6], by simp [wipeL]⟩
      have := List.length_filter_le p done
      rw [List.length_map]
      omega
  · rintro acc S' ⟨done, hd, rfl, rfl⟩
    rw [List.append_nil] at hd
    subst hd
    exact h
theorem ev_map {g : D → D} (hi : i < S.sl.length) (hit : Ev it S0 fun l S1 => l = ds ∧ S1 = S) (hz : ds.length ≤ sizeLine)
    (hte : ∀ d ∈ ds, Ev te { S with sl := S.sl.set i (.val d) } fun v S' => v.d = g d ∧ S' = { S with sl := S.sl.set i (.val d) })
    (h : Q (.own (.lst (ds.map g))) { S with sl := backL S.sl (S.sl.set i .un) [i] }) : Ev (compM [i] it (tgN i) (mp true) te) S0 Q := by
  refine ev_filt (p := fun _ => true) (g := g) hi hit hz (fun d _ => ev_mp.mpr ⟨rfl, rfl⟩) (fun d hd _ => hte d hd) ?_
  rwa [List.filter_eq_self.mpr (fun _ _ => rfl)]
/-- .. where the state of the deal changes: J holds of it throughout, P of each item -/
theorem ev_drawn {P : D → Prop} {J : DSt → Prop} (hi : i < S.sl.length) (hJ : J S.st) (hit : Ev it S0 fun l S1 => l = ds ∧ S1 = S) (hz : ds.length ≤ sizeLine)
    (hte : ∀ d ∈ ds, ∀ st, J st → Ev te ⟨S.sl.set i (.val d), st⟩ fun v S' => P v.d ∧ ∃ st', J st' ∧ S' = ⟨S.sl.set i (.val d), st'⟩)
    (h : ∀ l st, l.length = ds.length → (∀ d ∈ l, P d) → J st → Q (.own (.lst l)) ⟨backL S.sl (S.sl.set i .un) [i], st⟩) : Ev (compM [i] it (tgN i) (mp true) te) S0 Q := by
  refine ev_compM (hit.mono fun l S1 ⟨e1, e2⟩ => ?_)
  subst e1 e2
  refine ⟨fun r acc S' => ∃ st, J st ∧ acc.length + r.length = l.length ∧ (∀ d ∈ r, d ∈ l) ∧ (∀ d ∈ acc, P d) ∧ S' = ⟨S1.sl.set i .un, st⟩, ⟨S1.st, hJ, by simp, fun _ q => q, by simp, rfl⟩, ?_, ?_⟩
  · rintro d r acc S' ⟨st, hst, hl, hr, ha, rfl⟩
    rw [ev_tgN]
    refine ⟨by simpa using hi, ?_⟩
    have e3 : (⟨(S1.sl.set i .un).set i (R.val d).slot, st⟩ : Sta) = ⟨S1.sl.set i (.val d), st⟩ := by rw [List.set_set]; rfl
    show Ev (mp true) ⟨(S1.sl.set i .un).set i (R.val d).slot, st⟩ _
    rw [e3, ev_mp, if_pos rfl]
    refine (hte d (hr d List.mem_cons_self) st hst).mono fun v S3 ⟨e6, st', hst', e7⟩ => ?_
    subst e7
    simp only [List.length_cons] at hl
    refine ⟨by omega, st', hst', by simp; omega, fun x hx => hr x (List.mem_cons_of_mem _ hx), fun x hx => ?_, by simp [wipeL]⟩
    rcases List.mem_append.mp hx with q | q
    · exact ha x q
    · rw [List.mem_singleton] at q; rw [q]; exact e6
  · rintro acc S' ⟨st, hst, hl, hr, ha, rfl⟩
    simp only [List.length_nil, Nat.add_zero] at hl
    exact h acc st hl ha hst
end
end DD

end
section
set_option Elab.async false
set_option linter.all false
set_option maxRecDepth 100000
set_option autoImplicit false
namespace K80
open PySem DD
def DIv (cs : List Int) (m : Int) : Prop := cs.length ≤ 63 ∧ 0 ≤ m ∧ m < 2147483647
theorem atI_last {α : Type} (l : List α) (c : α) : L2.atI (l ++ [c]) (-1) = some c := by
  unfold L2.atI L2.ixN
  rw [if_neg (by decide), if_pos (by simp; omega)]
  have e : (-1 + ((l ++ [c]).length : Int)).toNat = l.length := by simp; omega
  rw [e]
  simp
theorem log2_lt {n k : Nat} (h : n < 2 ^ (k + 1)) : n.log2 ≤ k := by
  by_cases h0 : n = 0
  · subst h0; simp
  · exact Nat.le_of_lt_succ ((Nat.log2_lt h0).mpr h)
theorem any_spec (G : Str → Addr) (b : Int) (hb : 0 < b) (hb2 : b.natAbs.log2 < 9000) (cs : List Int) (m : Int) (h : DIv cs m) :
    fres (fun r st' => ∃ v cs' m', r = .val (.int v) ∧ 0 ≤ v ∧ v < b ∧ st' = some (cs', m') ∧ DIv cs' m') (fn__law_any G [.deal, .int b] (some (cs, m))) := by
  refine fn_of rfl ?_
  unfold b__law_any
  show Ev _ ⟨[.val .deal, .val (.int b), .un], some (cs, m)⟩ _
  walk_at "dxd"
  refine ev_while (fun k S => ∃ cs', S = ⟨[.val .deal, .val (.int b), .un], some (cs', m)⟩ ∧ cs'.length = k ∧ k ≤ 63) cs.length ⟨cs, rfl, rfl, h.1⟩ ?_
  rintro k S ⟨cs', rfl, hk, hz⟩
  have hm : m.natAbs.log2 ≤ 31 := log2_lt (by have := h.2; omega)
  walk_at "dxd"
  rcases List.eq_nil_or_concat cs' with rfl | ⟨l, c, rfl⟩
  · rw [if_neg (by simp), if_neg (by simp)]
    refine ⟨by have : (Int.natAbs 48271).log2 = 15 := by decide +kernel
               omega, by decide, ⟨by decide, by decide +kernel⟩, hb, rfl, _, _, _, rfl, Int.emod_nonneg _ (by omega), Int.emod_lt_of_pos _ hb, rfl, Nat.zero_le _, Int.emod_nonneg _ (by decide), Int.emod_lt_of_pos _ (by decide)⟩
  · have hl : 0 < ((l.concat c).length : Int) := by simp
    have hc : l.concat c = l ++ [c] := List.concat_eq_append
    rw [hc] at hl hk ⊢
    have hg : (l ++ [c])[l.length + 1 - 1]? = some c := by simp
    have hd : (l ++ [c]).dropLast = l := by simp
    have hll : l.length + 1 = k := by rw [← hk]; simp
    rw [if_pos hl, atI_last]
    walk_at "dx"
    rw [hg, hd]
    by_cases h0 : c = 0
    · rw [if_pos h0]
      walk_at "dx"
      exact ⟨l.length, by omega, l, rfl, rfl, by omega⟩
    · rw [if_neg h0, if_pos (by omega)]
      walk_at "dx"
      refine ⟨⟨hb, hb2⟩, dealK_of.mpr ⟨rfl, by rw [sizeLine]; omega, hb, rfl, _, _, _, rfl, Int.emod_nonneg _ (by omega), Int.emod_lt_of_pos _ hb, rfl, by simp; omega, h.2⟩⟩
theorem of_spec (G : Str → Addr) (ds : List D) (hd : ds ≠ []) (hz : ds.length ≤ sizeLine) (cs : List Int) (m : Int) (h : DIv cs m) :
    fres (fun r st' => ∃ d cs' m', r = .val d ∧ d ∈ ds ∧ st' = some (cs', m') ∧ DIv cs' m') (fn__law_of G [.deal, .lst ds] (some (cs, m))) := by
  refine fn_of rfl ?_
  unfold b__law_of
  show Ev _ ⟨[.val .deal, .val (.lst ds)], some (cs, m)⟩ _
  have hl : 0 < ds.length := List.length_pos_iff.mpr hd
  have hs : sizeLine = 2 ^ 24 := rfl
  walk_at "dx"
  refine fres_mono (any_spec G ds.length (by omega) (by
    have : (ds.length : Int).natAbs.log2 ≤ 24 := log2_lt (by omega)
    omega) cs m h) ?_
  rintro r st' ⟨v, cs', m', rfl, h0, h1, rfl, hD⟩
  have hv : L2.atI ds v = some (ds[v.toNat]'(by omega)) := by
    unfold L2.atI L2.ixN
    rw [if_pos h0, if_pos h1]
    simp
  walk_at "dx"
  rw [hv]
  exact ⟨rfl, rfl, _, _, _, rfl, List.getElem_mem _, rfl, hD⟩
theorem of_str (G : Str → Addr) (z : Str) (hd : 0 < z.length) (hz : z.length ≤ sizeLine) (cs : List Int) (m : Int) (h : DIv cs m) :
    fres (fun r st' => ∃ c cs' m', r = .val (.str ⟨#[c]⟩) ∧ c ∈ z.cps.toList ∧ st' = some (cs', m') ∧ DIv cs' m') (fn__law_of G [.deal, .str z] (some (cs, m))) := by
  refine fn_of rfl ?_
  unfold b__law_of
  show Ev _ ⟨[.val .deal, .val (.str z)], some (cs, m)⟩ _
  have hs : sizeLine = 2 ^ 24 := rfl
  walk_at "dx"
  refine ⟨hz, fres_mono (any_spec G z.length (by omega) (by
    have : (z.length : Int).natAbs.log2 ≤ 24 := log2_lt (by omega)
    omega) cs m h) ?_⟩
  rintro r st' ⟨v, cs', m', rfl, h0, h1, rfl, hD⟩
  have hzl : z.cps.toList.length = z.length := Array.length_toList
  have hv : L2.atI z.cps.toList v = some (z.cps.toList[v.toNat]'(by omega)) := by
    unfold L2.atI L2.ixN
    rw [if_pos h0, if_pos (by omega)]
    simp
  walk_at "dx"
  rw [hv]
  exact ⟨rfl, hz, rfl, _, _, _, rfl, List.getElem_mem _, rfl, hD⟩
/-! ### being the same -/
theorem isi_t {cs : List Addr} {d : D} {t T : String} {b : Bool} (ht : d.tyN = some t) (hk : L2.kitB t T = some b) : isiD cs [d, .ty T] = some (.val (.bl b)) := by
  show (isi1 cs d (.ty T)).map (fun b => R.val (.bl b)) = _
  simp only [isi1, ht, hk]; rfl
theorem plain_eq (G : Str → Addr) (d : D) (st : DSt) (h : d.plain = true) : fn__law_plain G [d] st = .ok (.val d) st := by
  refine fres_eq (fn_of rfl ?_)
  unfold b__law_plain
  show Ev _ ⟨[.val d], st⟩ _
  walk_at "dx"
  have i1 : ∀ C, C ∈ csG G → isiD (csG G) [d, .adr C] = some (.val (.bl false)) := fun C hC => by
    show (isi1 (csG G) d (.adr C)).map _ = _
    rw [isi_adr h hC]; rfl
  have i2 : ∀ C C', C ∈ csG G → C' ∈ csG G → isiD (csG G) [d, .tup [.adr C, .adr C']] = some (.val (.bl false)) := fun C C' hC hC' => by
    show (isiA (csG G) d [.adr C, .adr C']).map (fun b => R.val (.bl b)) = _
    simp only [isiA, isi_adr h hC, isi_adr h hC']; rfl
  simp only [i1 _ (show G "Finding" ∈ csG G by simp [csG]), i2 _ _ (show G "NamesAnswer" ∈ csG G by simp [csG]) (show G "LevelsAnswer" ∈ csG G by simp [csG]), i1 _ (show G "Web" ∈ csG G by simp [csG])]
  walk_at "dx"
  decide
theorem kind_eq (G : Str → Addr) (d : D) (st : DSt) (h : d.plain = true) (ht : ∀ ds, d ≠ .tup ds) : fn__law_is_kind G [d, d] st = .ok (.val (.bl true)) st := by
  refine fres_eq (fn_of rfl ?_)
  unfold b__law_is_kind
  show Ev _ ⟨[.val d, .val d], st⟩ _
  cases d with
  | non => walk_at "dx"
  | bl b =>
    have e1 : isD (.bl b) .non = some (.val (.bl false)) := rfl
    have e2 : ∀ c, isD (.bl b) (.bl c) = some (.val (.bl (b == c))) := fun c => rfl
    walk_at "dx"
    simp only [e1, e2]
    walk_at "dx"
    cases b <;> rfl
  | int i =>
    have e1 : isD (.int i) .non = some (.val (.bl false)) := rfl
    have e2 : ∀ c, isD (.int i) (.bl c) = some (.val (.bl false)) := fun c => rfl
    have e3 : isiD (csG G) [.int i, .ty "str"] = some (.val (.bl false)) := isi_t rfl (by decide +kernel)
    have e4 : isiD (csG G) [.int i, .ty "int"] = some (.val (.bl true)) := isi_t rfl (by decide +kernel)
    have e5 : isiD (csG G) [.int i, .ty "bool"] = some (.val (.bl false)) := isi_t rfl (by decide +kernel)
    walk_at "dx"
    simp only [e1, e2, e3, e4, e5]
    walk_at "dx"
  | str x =>
    have e1 : isD (.str x) .non = some (.val (.bl false)) := rfl
    have e2 : ∀ c, isD (.str x) (.bl c) = some (.val (.bl false)) := fun c => rfl
    have e3 : isiD (csG G) [.str x, .ty "str"] = some (.val (.bl true)) := isi_t rfl (by decide +kernel)
    have e4 : eqD (.str x) (.str x) = some (.val (.bl true)) := by
      have e : eqvD (.str x) (.str x) = some true := by
        show (if SeqAt.shaped (.str x) && SeqAt.shaped (.str x) then some (PyData.eqv (.str x) (.str x)) else none) = _
        have hs : SeqAt.shaped (.str x) = true := by simpa [D.plain] using h
        rw [hs]
        simp [PyData.eqv]
      unfold eqD
      rw [e]; rfl
    walk_at "dx"
    simp only [e1, e2, e3, e4]
    walk_at "dx"
  | tup ds => exact absurd rfl (ht ds)
  | _ => simp [D.plain] at h
/-- the two are the same, and of plain kinds -/
theorem same_eq (G : Str → Addr) (d : D) (st : DSt) (h : d.plain = true) (hz : d.nodes ≤ 1000000) : fn__law_same G [d, d] st = .ok (.val (.bl true)) st := by
  refine fres_eq (fn_of rfl ?_)
  unfold b__law_same
  show Ev _ ⟨[.val d, .val d, .un, .un, .un], st⟩ _
  have hs : sizeLine = 2 ^ 24 := rfl
  walk_at "dx"
  refine ⟨by decide, by decide, ev_while (fun k S => ∃ ds x y, S = ⟨[.val d, .val d, .own (.lst (twin ds)), x, y], st⟩ ∧ plains ds = true ∧ nodesL ds = k ∧ k ≤ 1000000) d.nodes ⟨[d], .un, .un, rfl, by simp [plains, h], by simp [nodesL], hz⟩ ?_⟩
  rintro k S ⟨ds, x, y, rfl, hp, hk, hk2⟩
  walk_at "dx"
  rcases List.eq_nil_or_concat ds with rfl | ⟨l, e, rfl⟩
  · rw [if_neg (by simp [twin])]
    trivial
  · rw [List.concat_eq_append] at hp hk ⊢
    rw [plains_app, Bool.and_eq_true] at hp
    rw [nodesL_app] at hk
    have hpe : e.plain = true := by simpa [plains] using hp.2
    have hke : nodesL l + e.nodes = k := by simpa [nodesL] using hk
    have hl := nodesL_len l
    have hpop : popF (twin (l ++ [e])) [] = some (twin l, .tup [e, e]) := by
      unfold popF twin
      simp
    rw [if_pos (by simp [twin]), hpop]
    walk_at "dx"
    rw [plain_eq G e st hpe]
    walk_at "dx"
    by_cases ht : ∃ es, e = .tup es
    · obtain ⟨es, rfl⟩ := ht
      have e1 : isiD (csG G) [.tup es, .ty "tuple"] = some (.val (.bl true)) := isi_t rfl (by decide +kernel)
      have e2 : lzD [.tup es, .tup es] = some (.own (.lst (twin es))) := by
        show (if es.length = es.length then some (R.own (.lst (zipD es es))) else none) = _
        rw [if_pos rfl, zip_twin]
      have hn : nodesL es + 1 = (D.tup es).nodes := by simp [D.nodes]
      have hle := nodesL_len es
      rw [e1]
      walk_at "dx"
      rw [e2]
      walk_at "dx"
      refine ⟨by simp [twin]; omega, nodesL (l ++ es), by rw [nodesL_app]; omega, l ++ es, .val (.tup es), .val (.tup es), by simp [twin, R.slot], ?_, rfl, by rw [nodesL_app]; omega⟩
      rw [plains_app, Bool.and_eq_true]
      exact ⟨hp.1, by simpa [D.plain] using hpe⟩
    · have key : isiD (csG G) [e, .ty "tuple"] = some (.val (.bl false)) ∧ isiD (csG G) [e, .tup [.ty "tuple", .ty "list", .ty "dict"]] = some (.val (.bl false)) := by
        have hh : ∀ t, e.tyN = some t → L2.kitB t "tuple" = some false → L2.kitB t "list" = some false → L2.kitB t "dict" = some false → isiD (csG G) [e, .ty "tuple"] = some (.val (.bl false)) ∧ isiD (csG G) [e, .tup [.ty "tuple", .ty "list", .ty "dict"]] = some (.val (.bl false)) := fun t ht k1 k2 k3 => by
          refine ⟨isi_t ht k1, ?_⟩
          show (isiA (csG G) e [.ty "tuple", .ty "list", .ty "dict"]).map (fun b => R.val (.bl b)) = _
          simp only [isiA, isi1, ht, k1, k2, k3]; rfl
        cases e with
        | non => exact hh "NoneType" rfl (by decide +kernel) (by decide +kernel) (by decide +kernel)
        | bl b => exact hh "bool" rfl (by decide +kernel) (by decide +kernel) (by decide +kernel)
        | int b => exact hh "int" rfl (by decide +kernel) (by decide +kernel) (by decide +kernel)
        | str b => exact hh "str" rfl (by decide +kernel) (by decide +kernel) (by decide +kernel)
        | tup es => exact absurd ⟨es, rfl⟩ ht
        | _ => simp [D.plain] at hpe
      have hpos := nodes_pos e
      rw [key.1]
      walk_at "dx"
      rw [key.2, kind_eq G e st hpe fun es z => ht ⟨es, z⟩]
      walk_at "dx"
      exact ⟨by decide, nodesL l, by omega, l, _, _, rfl, hp.1, rfl, by omega⟩
/-- all pairs told are of the same -/
theorem all_eq (G : Str → Addr) (ds : List D) (st : DSt) (h : ∀ d ∈ ds, d.plain = true ∧ d.nodes ≤ 1000000) : fn__law_all G [.lst (twin ds)] st = .ok (.val (.bl true)) st := by
  refine fres_eq (fn_of rfl ?_)
  unfold b__law_all
  show Ev _ ⟨[.val (.lst (twin ds)), .un, .un], st⟩ _
  walk_at "dx"
  refine ev_compM ?_
  walk_at "dx"
  refine ⟨fun l acc S => acc = [] ∧ (∃ es, l = twin es ∧ ∀ d ∈ es, d.plain = true ∧ d.nodes ≤ 1000000) ∧ S = ⟨[.val (.lst (twin ds)), .un, .un], st⟩, ⟨rfl, ⟨ds, rfl, h⟩, rfl⟩, ?_, ?_⟩
  · rintro d r acc S ⟨rfl, ⟨es, he, hes⟩, rfl⟩
    cases es with
    | nil => cases he
    | cons e es =>
      cases he
      obtain ⟨hp, hn⟩ := hes e List.mem_cons_self
      walk_at "dx"
      rw [same_eq G e st hp hn]
      walk_at "dx"
      exact ⟨⟨es, rfl, fun d hd => hes d (List.mem_cons_of_mem _ hd)⟩, rfl⟩
  · rintro acc S ⟨rfl, _, rfl⟩
    walk_at "dx"
    rfl
/-! ### the deal is made -/
theorem slD_scr {ns : List Int} {lo hi : Option Int} : slD (.scr ns) lo hi = some (.own (.lst (cutL (ns.map D.int) lo hi))) := rfl
theorem cut63 (ns : List Int) : ∃ ms : List Int, cutL (ns.map D.int) none (some 63) = ms.map D.int ∧ ms.length ≤ 63 := by
  refine ⟨ns.take (HT.sIx ns.length ns.length (some 63)), ?_, ?_⟩
  · unfold cutL
    rw [List.length_map]
    show List.take (_ - 0) (List.drop 0 (ns.map D.int)) = _
    rw [List.drop_zero, Nat.sub_zero, ← List.map_take]
  · rw [List.length_take]
    have := HT.sIx_nat ns.length ns.length 63
    have e : HT.sIx ns.length ns.length (some 63) = min 63 ns.length := this
    rw [e]; omega
theorem allInts_ok (cs : List Int) : allInts (cs.map D.int) = some cs := allInts_map cs
theorem dO_some (G : Str → Addr) (ns : List Int) (salt : Int) (h0 : 0 ≤ salt) (h1 : salt ≤ 1000) : ∃ cs m, dO G ns salt = some (cs, m) ∧ DIv cs m := by
  have hs : sizeLine = 2 ^ 24 := rfl
  have key : Ev (seqS (b_deal1 G) (seqS (b_deal2 G) (b_deal3 G))) (initS 6 [.scr ns, .int salt] none) fun fl S1 => fl = .nx ∧ Ev (b_dealC G) S1 fun r S2 => ∃ cs : List Int, r = .own (.lst (cs.map D.int)) ∧ cs.length ≤ 63 ∧ Ev (b_dealM G) S2 fun r2 _ => ∃ m : Int, r2 = .val (.int m) ∧ 0 ≤ m ∧ m < 2147483647 := by
    show Ev _ ⟨[.val (.scr ns), .val (.int salt), .un, .un, .un, .un], none⟩ _
    unfold b_deal1 b_deal2 b_deal3 b_dealC b_dealM
    walk_at "dx"
    refine ⟨by decide +kernel, by decide +kernel, by decide +kernel, by decide +kernel, by decide +kernel, by decide +kernel, by decide +kernel, by decide +kernel, by decide +kernel, by decide +kernel, by decide +kernel, ?_⟩
    have hmost : (0 : Int) < 10 ^ Int.toNat 64 * 10 ^ Int.toNat 64 * 10 ^ Int.toNat 64 * 10 ^ Int.toNat 64 * 10 ^ Int.toNat 64 * 10 ^ Int.toNat 64 := by decide +kernel
    generalize (10 ^ Int.toNat 64 * 10 ^ Int.toNat 64 * 10 ^ Int.toNat 64 * 10 ^ Int.toNat 64 * 10 ^ Int.toNat 64 * 10 ^ Int.toNat 64 : Int) = most at hmost ⊢
    refine ev_compM ?_
    walk_at "dx"
    rw [slD_scr]
    walk_at "dx"
    obtain ⟨ms, em, hml⟩ := cut63 ns
    rw [em]
    refine ⟨fun l acc S => ∃ rest cs : List Int, l = rest.map D.int ∧ acc = cs.map D.int ∧ cs.length + rest.length ≤ 63 ∧ S = ⟨[.val (.scr ns), .val (.int salt), .val (.int most), .un, .un, .un], none⟩, ⟨ms, [], rfl, rfl, by simpa using hml, rfl⟩, ?_, ?_⟩
    · rintro d r acc S ⟨rest, cs, hl, rfl, hz, rfl⟩
      cases rest with
      | nil => cases hl
      | cons x rest =>
        cases hl
        simp only [List.length_cons] at hz
        walk_at "dx"
        refine ⟨hmost, by rw [List.length_map]; omega, rest, cs ++ [_], rfl, by rw [List.map_append]; rfl, by simp; omega, rfl⟩
    · rintro acc S ⟨rest, cs, hl, rfl, hz, rfl⟩
      have hr : rest = [] := by cases rest with
        | nil => rfl
        | cons x r => cases hl
      subst hr
      simp only [backL]
      walk_at "dx"
      refine ⟨by have : (Int.natAbs 7919).log2 = 12 := by decide +kernel
                 have h2 : salt.natAbs.log2 ≤ 10 := log2_lt (by omega)
                 omega, ?_⟩
      refine ev_forL (fun l S => ∃ (rest : List Int) (m : Int) (x : Slot), l = rest.map D.int ∧ 0 ≤ m ∧ m < 2147483647 ∧ S = ⟨[.val (.scr ns), .val (.int salt), .val (.int most), .val (.lst (cs.map D.int)), .val (.int m), x], none⟩) ⟨cs, _, .un, rfl, by omega, by omega, rfl⟩ ?_ ?_
      · rintro d r S ⟨rest, m, x, hl, hm0, hm1, rfl⟩
        cases rest with
        | nil => cases hl
        | cons y rest =>
          cases hl
          walk_at "dx"
          have hlog : m.natAbs.log2 + (Int.natAbs 69621).log2 < 1000000 := by
            have : (Int.natAbs 69621).log2 = 16 := by decide +kernel
            have h2 : m.natAbs.log2 ≤ 31 := log2_lt (by omega)
            omega
          refine ⟨hlog, by decide, by decide, rest, _, .val (.int y), rfl, Int.emod_nonneg _ (by decide), Int.emod_lt_of_pos _ (by decide), rfl⟩
      · rintro S ⟨rest, m, x, hl, hm0, hm1, rfl⟩
        refine ⟨rfl, ev_compM ?_⟩
        walk_at "dx"
        refine ⟨fun l acc S => ∃ rest cs' : List Int, l = rest.map D.int ∧ acc = cs'.map D.int ∧ cs'.length + rest.length ≤ 63 ∧ S = ⟨[.val (.scr ns), .val (.int salt), .val (.int most), .val (.lst (cs.map D.int)), .val (.int m), .un], none⟩, ⟨cs, [], rfl, rfl, by simpa using hz, rfl⟩, ?_, ?_⟩
        · rintro d r acc S ⟨rest, cs', hl, rfl, hz, rfl⟩
          cases rest with
          | nil => cases hl
          | cons x rest =>
            cases hl
            simp only [List.length_cons] at hz
            walk_at "dx"
            refine ⟨by decide +kernel, ?_⟩
            by_cases hc : (10 : Int) ^ Int.toNat 18 ≤ x
            · rw [if_pos hc]
              exact ⟨by rw [List.length_map]; omega, rest, cs' ++ [x], rfl, by rw [List.map_append]; rfl, by simp; omega, rfl⟩
            · rw [if_neg hc]
              exact ⟨rest, cs', rfl, rfl, by omega, rfl⟩
        · rintro acc S ⟨rest, cs', hl, rfl, hz, rfl⟩
          simp only [backL]
          have hrev : revD (.lst (cs'.map D.int)) = some (.own (.lst (cs'.reverse.map D.int))) := by rw [List.map_reverse]; rfl
          walk_at "dx"
          rw [hrev]
          walk_at "dx"
          exact ⟨cs'.reverse, rfl, by rw [List.length_reverse]; omega, m, rfl, hm0, hm1⟩
  obtain ⟨fl, S1, e1, rfl, hC⟩ := key.elim
  obtain ⟨r, S2, e2, cs, rfl, hl, hM⟩ := hC.elim
  obtain ⟨r2, S3, e3, m, rfl, hm⟩ := hM.elim
  refine ⟨cs, m, ?_, hl, hm⟩
  show dealM (b_deal1 G) (b_deal2 G) (b_deal3 G) (b_dealC G) (b_dealM G) (initS 6 [.scr ns, .int salt] none) = _
  unfold dealM
  simp only [e1, e2, e3, allInts_ok]
  rfl
end K80

end
section
set_option Elab.async false
set_option linter.all false
set_option maxRecDepth 100000
set_option autoImplicit false
namespace K80
open PySem DD
theorem sizeE : sizeLine = 2 ^ 24 := rfl
/-! ### figures -/
def octs (n : Nat) : List Nat := if h : n < 128 then [n] else (128 + n % 128) :: octs (n / 128)
theorem octs_lt {n : Nat} (h : n < 128) : octs n = [n] := by rw [octs, dif_pos h]
theorem octs_ge {n : Nat} (h : ¬ n < 128) : octs n = (128 + n % 128) :: octs (n / 128) := by rw [octs, dif_neg h]
theorem octs_pos (n : Nat) : 0 < (octs n).length := by
  by_cases h : n < 128
  · rw [octs_lt h]; simp
  · rw [octs_ge h]; simp
def nds (l : List Nat) : List D := l.map fun n => D.int (n : Nat)
theorem nds_len (l : List Nat) : (nds l).length = l.length := by simp [nds]
theorem nds_app (l m : List Nat) : nds (l ++ m) = nds l ++ nds m := by simp [nds]
theorem nds_one (n : Nat) : nds [n] = [D.int (n : Nat)] := rfl
theorem dm (k : Nat) : (128 + (k : Int) % 128) = ((128 + k % 128 : Nat) : Int) := by omega
theorem dm2 (k : Nat) : ((k : Int) % 128 + 128) = ((128 + k % 128 : Nat) : Int) := by omega
theorem dd128 (k : Nat) : ((k : Int) / 128) = ((k / 128 : Nat) : Int) := by omega
theorem octets_of_number_eq (G : Str → Addr) (n : Nat) (st : DSt) (hz : (octs n).length < sizeLine) : fn_octets_of_number G [.int n] st = .ok (.val (.tup (nds (octs n)))) st := by
  refine fres_eq (fn_of rfl ?_)
  unfold b_octets_of_number
  show Ev _ ⟨[.val (.int n), .un, .un], st⟩ _
  walk_at "dx"
  refine ⟨Nat.zero_le _, ev_while (fun k S => ∃ acc : List Nat, acc ++ octs k = octs n ∧ S = ⟨[.val (.int n), .own (.lst (nds acc)), .val (.int k)], st⟩) n ⟨[], rfl, rfl⟩ ?_⟩
  rintro k S ⟨acc, ha, rfl⟩
  have hl : acc.length + (octs k).length = (octs n).length := by rw [← ha, List.length_append]
  have hp := octs_pos k
  have hz2 : (nds acc).length < sizeLine := by rw [nds_len]; omega
  walk_at "dx"
  by_cases h : k < 128
  · rw [if_neg (by omega)]
    refine ⟨hz2, ?_⟩
    rw [← ha, octs_lt h, nds_app, nds_one]
  · rw [if_pos (by omega)]
    refine ⟨by decide, hz2, by decide +kernel, k / 128, by omega, acc ++ [128 + k % 128], ?_, ?_⟩
    · rw [← ha, octs_ge h, List.append_assoc]; rfl
    · rw [nds_app, nds_one, dm, dd128]
theorem law_number_octets_eq (G : Str → Addr) (n : Nat) (st : DSt) (hz : (octs n).length < sizeLine) : fn__law_number_octets G [.int n] st = .ok (.own (.lst (nds (octs n)))) st := by
  refine fres_eq (fn_of rfl ?_)
  unfold b__law_number_octets
  show Ev _ ⟨[.val (.int n), .un, .un], st⟩ _
  walk_at "dx"
  refine ⟨Nat.zero_le _, ev_while (fun k S => ∃ acc : List Nat, acc ++ octs k = octs n ∧ S = ⟨[.val (.int n), .own (.lst (nds acc)), .val (.int k)], st⟩) n ⟨[], rfl, rfl⟩ ?_⟩
  rintro k S ⟨acc, ha, rfl⟩
  have hl : acc.length + (octs k).length = (octs n).length := by rw [← ha, List.length_append]
  have hp := octs_pos k
  have hz2 : (nds acc).length < sizeLine := by rw [nds_len]; omega
  walk_at "dx"
  by_cases h : k < 128
  · rw [if_neg (by omega)]
    refine ⟨by decide, by omega, ?_⟩
    rw [← ha, octs_lt h, nds_app, nds_one]
  · rw [if_pos (by omega)]
    refine ⟨by decide, hz2, by decide +kernel, k / 128, by omega, acc ++ [128 + k % 128], ?_, ?_⟩
    · rw [← ha, octs_ge h, List.append_assoc]; rfl
    · rw [nds_app, nds_one, dm2, dd128]
theorem number_octets_eq (G : Str → Addr) (n : Nat) (st : DSt) (hz : (octs n).length < sizeLine) : fn_number_octets G [.int n] st = .ok (.val (.tup (nds (octs n)))) st := by
  refine fres_eq (fn_of rfl ?_)
  unfold b_number_octets
  show Ev _ ⟨[.val (.int n)], st⟩ _
  walk_at "dx"
  rw [octets_of_number_eq G n st hz]
  walk_at "dx"
end K80

end
section
set_option Elab.async false
set_option linter.all false
set_option maxRecDepth 100000
set_option autoImplicit false
namespace K80
open PySem DD
/-! ### the number of figures -/
def valB (B : Nat) : List Nat → Nat
  | [] => 0
  | d :: r => d + B * valB B r
def pairUp (B : Nat) : List Nat → List Nat
  | a :: b :: r => (a + B * b) :: pairUp B r
  | [a] => [a]
  | [] => []
theorem pairUp_val (B : Nat) : ∀ l : List Nat, valB (B * B) (pairUp B l) = valB B l
  | [] => rfl
  | [a] => by simp [pairUp, valB]
  | a :: b :: r => by
    simp only [pairUp, valB, pairUp_val B r]
    rw [Nat.mul_add, Nat.add_assoc, Nat.mul_assoc]
theorem pairUp_len (B : Nat) : ∀ l : List Nat, (pairUp B l).length = (l.length + 1) / 2
  | [] => rfl
  | [a] => by simp [pairUp]
  | a :: b :: r => by simp only [pairUp, List.length_cons, pairUp_len B r]; omega
theorem pairUp_lt {B : Nat} (hB : 0 < B) : ∀ {l : List Nat}, (∀ d ∈ l, d < B) → ∀ d ∈ pairUp B l, d < B * B
  | [], _, d, h => by simp [pairUp] at h
  | [a], hl, d, h => by
    simp only [pairUp, List.mem_singleton] at h
    subst h
    exact Nat.lt_of_lt_of_le (hl d (by simp)) (Nat.le_mul_of_pos_left B hB)
  | a :: b :: r, hl, d, h => by
    simp only [pairUp, List.mem_cons] at h
    rcases h with rfl | h
    · have h1 : a < B := hl a (by simp)
      have h2 : b < B := hl b (by simp)
      have h3 : B * b ≤ B * (B - 1) := Nat.mul_le_mul_left B (by omega)
      have h4 : B * (B - 1) + B = B * B := by
        rw [Nat.mul_sub, Nat.mul_one, Nat.sub_add_cancel (Nat.le_mul_of_pos_left B hB)]
      omega
    · exact pairUp_lt hB (fun d hd => hl d (by simp [hd])) d h
/-- the pairs that stand whole -/
def pairsW (B : Nat) : List Nat → List Nat
  | a :: b :: r => (a + B * b) :: pairsW B r
  | _ => []
theorem pairsW_len (B : Nat) : ∀ l : List Nat, (pairsW B l).length = l.length / 2
  | [] => rfl
  | [a] => by simp [pairsW]
  | a :: b :: r => by simp only [pairsW, List.length_cons, pairsW_len B r]; omega
theorem pairsW_at (B : Nat) : ∀ (l : List Nat) (t : Nat) (h : 2 * t + 1 < l.length), (pairsW B l)[t]? = some (l[2 * t]'(by omega) + B * l[2 * t + 1])
  | [], t, h => by simp at h
  | [a], t, h => by simp at h
  | a :: b :: r, 0, h => by simp [pairsW]
  | a :: b :: r, t + 1, h => by
    simp only [pairsW, List.getElem?_cons_succ]
    rw [pairsW_at B r t (by simp only [List.length_cons] at h; omega)]
    have e1 : 2 * (t + 1) = 2 * t + 1 + 1 := by omega
    simp only [e1, List.getElem_cons_succ]
theorem pairUp_of (B : Nat) : ∀ l : List Nat, pairUp B l = if h : l.length % 2 = 1 then pairsW B l ++ [l[l.length - 1]'(by omega)] else pairsW B l
  | [] => rfl
  | [a] => by simp [pairUp, pairsW]
  | a :: b :: r => by
    have ih := pairUp_of B r
    simp only [pairUp, pairsW, List.length_cons]
    rw [ih]
    by_cases h : r.length % 2 = 1
    · have h2 : (r.length + 1 + 1) % 2 = 1 := by omega
      rw [dif_pos h, dif_pos h2]
      have e : r.length + 1 + 1 - 1 = (r.length - 1) + 1 + 1 := by omega
      simp only [e, List.getElem_cons_succ, List.cons_append]
    · have h2 : ¬ (r.length + 1 + 1) % 2 = 1 := by omega
      rw [dif_neg h, dif_neg h2]
theorem range2 (n : Nat) (h : 1 ≤ n) (h2 : n ≤ 2 ^ 24) : Builtin.Range.small 0 ((n : Int) - 1) 2 = true ∧ Builtin.Range.rangeSize 0 ((n : Int) - 1) 2 = ((n / 2 : Nat) : Int) := by
  have e : Builtin.Range.rangeSize 0 ((n : Int) - 1) 2 = ((n / 2 : Nat) : Int) := by
    unfold Builtin.Range.rangeSize
    rw [if_pos (by decide)]
    split <;> omega
  refine ⟨?_, e⟩
  unfold Builtin.Range.small
  rw [e]
  rw [if_pos (by decide)]
  simp only [Builtin.Range.rangeFitsLong, Bool.and_eq_true, Bool.or_eq_true, decide_eq_true_eq, beq_iff_eq]
  omega
theorem atI_nds {l : List Nat} {i : Int} {k : Nat} (e : i = (k : Int)) (h : k < l.length) : L2.atI (nds l) i = some (.int (l[k] : Nat)) := by
  unfold L2.atI L2.ixN
  rw [nds_len, e, if_pos (by omega), if_pos (by omega)]
  simp [nds, h]
theorem ev_rangeI3 {ga : M (List D)} {S : Sta} {Q : List D → Sta → Prop} {i j c : Int} {n : Nat} (h : Ev ga S fun ds S1 => ds = [.int i, .int j, .int c] ∧ (c ≠ 0 ∧ c.natAbs < 1073741824 ∧ Builtin.Range.small i j c = true ∧ Builtin.Range.rangeSize i j c = (n : Int)) ∧ Q ((List.range n).map fun (t : Nat) => D.int (i + (t : Int) * c)) S1) : Ev (rangeI3 ga) S Q := by
  unfold rangeI3
  rw [ev_mb]
  refine h.mono fun ds S1 ⟨e, ⟨h1, h2, h3, h4⟩, q⟩ => ?_
  subst e
  show Ev (if c ≠ 0 ∧ c.natAbs < 1073741824 ∧ Builtin.Range.small i j c = true ∧ 0 ≤ Builtin.Range.rangeSize i j c then mp ((List.range (Builtin.Range.rangeSize i j c).toNat).map fun (t : Nat) => D.int (i + (t : Int) * c)) else fun _ => .bad) S1 Q
  rw [if_pos ⟨h1, h2, h3, by rw [h4]; omega⟩, h4, Int.toNat_natCast]
  exact ev_mp.mpr q
theorem drop_cons' {α : Type} {l : List α} {t : Nat} {d : α} {r : List α} (h : l.drop t = d :: r) : ∃ ht : t < l.length, d = l[t] ∧ r = l.drop (t + 1) := by
  have ht : t < l.length := by
    apply Classical.byContradiction
    intro z
    rw [List.drop_eq_nil_of_le (by omega)] at h
    cases h
  rw [List.drop_eq_getElem_cons ht] at h
  cases h
  exact ⟨ht, rfl, rfl⟩
theorem drop_nil' {α : Type} {l : List α} {t : Nat} (h : l.drop t = []) : l.length ≤ t := List.drop_eq_nil_iff.mp h
theorem log2_le {n k : Nat} (h : n ≤ 2 ^ k) : n.log2 ≤ k := log2_lt (by rw [Nat.pow_succ]; have := Nat.pow_pos (n := k) (show 0 < 2 by decide); omega)
theorem number_of_eq (G : Str → Addr) (ds : List Nat) (st : DSt) (hd : ds ≠ []) (hl : ∀ d ∈ ds, d < 128) (hz : ds.length ≤ 60000) : fn_number_of G [.lst (nds ds)] st = .ok (.val (.int (valB 128 ds : Nat))) st := by
  refine fres_eq (fn_of rfl ?_)
  unfold b_number_of
  show Ev _ ⟨[.val (.lst (nds ds)), .un, .un, .un, .un], st⟩ _
  have hs := sizeE
  walk_at "dx"
  refine ⟨by decide, ?_⟩
  refine ev_while (fun k S => ∃ (row : List Nat) (e : Nat) (x y : Slot), row ≠ [] ∧ row.length = k ∧ valB (2 ^ e) row = valB 128 ds ∧ (∀ d ∈ row, d < 2 ^ e) ∧ e * (k - 1) ≤ 420000 ∧ k ≤ 60000 ∧ (y = .un ∨ ∃ d, y = .val d) ∧
      S = ⟨[.val (.lst (nds ds)), .val (.lst (nds row)), .val (.int ((2 ^ e : Nat) : Int)), x, y], st⟩) ds.length ⟨ds, 7, .un, .un, hd, rfl, rfl, hl, by omega, hz, .inl rfl, rfl⟩ ?_
  rintro k S ⟨row, e, x, y, hr, hk, hv, hlt, he, hk2, hy, rfl⟩
  have hpos : 0 < row.length := List.length_pos_iff.mpr hr
  walk_at "dx"
  rw [nds_len]
  by_cases h1 : row.length = 1
  · rw [if_neg (by omega)]
    obtain ⟨a, rfl⟩ : ∃ a, row = [a] := by
      match row, h1 with
      | [a], _ => exact ⟨a, rfl⟩
    have h0 : L2.atI (nds [a]) 0 = some (.int (a : Nat)) := atI_nds (l := [a]) (k := 0) rfl (by simp)
    rw [h0, ← hv]
    walk_at "dx"
    simp [valB]
  · rw [if_pos (by omega)]
    obtain ⟨r1, r2⟩ := range2 row.length (by omega) (by omega)
    have e2 : e * 1 ≤ e * (k - 1) := Nat.mul_le_mul_left e (by omega)
    have epos : 0 < 2 ^ e := Nat.pow_pos (by decide)
    refine ev_compM (ev_rangeI3 (i := 0) (j := (row.length : Int) - 1) (c := 2) (n := row.length / 2) ?_)
    walk_at "dx"
    rw [nds_len]
    refine ⟨rfl, ⟨by decide, by decide, r1, r2⟩, ?_⟩
    refine ⟨fun l acc S => ∃ t, ((List.range (row.length / 2)).map fun (t : Nat) => D.int (0 + (t : Int) * 2)).drop t = l ∧ acc = nds ((pairsW (2 ^ e) row).take t) ∧ t ≤ row.length / 2 ∧ S = ⟨[.val (.lst (nds ds)), .val (.lst (nds row)), .val (.int ((2 ^ e : Nat) : Int)), x, .un], st⟩, ⟨0, rfl, rfl, Nat.zero_le _, by simp [wipeL]⟩, ?_, ?_⟩
    · rintro d r acc S ⟨t, hl1, rfl, ht, rfl⟩
      obtain ⟨ht1, hd1, hr1⟩ := drop_cons' hl1
      simp only [List.length_map, List.length_range] at ht1
      simp only [List.getElem_map, List.getElem_range] at hd1
      subst hd1
      walk_at "dx"
      have q1 : 2 * t + 1 < row.length := by omega
      rw [atI_nds (k := 2 * t) (by omega) (by omega), atI_nds (k := 2 * t + 1) (by omega) q1]
      walk_at "dx"
      have b1 : row[2 * t + 1] < 2 ^ e := hlt _ (List.getElem_mem _)
      have l1 : ((2 ^ e : Nat) : Int).natAbs.log2 ≤ e := log2_le (by rw [Int.natAbs_natCast]; exact Nat.le_refl _)
      have l2 : ((row[2 * t + 1] : Nat) : Int).natAbs.log2 ≤ e := log2_le (by rw [Int.natAbs_natCast]; omega)
      refine ⟨by omega, by rw [nds_len, List.length_take]; omega, t + 1, hr1.symm, ?_, by omega, by simp [wipeL]⟩
      rw [List.take_succ, pairsW_at _ _ _ q1, nds_app]
      simp [nds]
    · rintro acc S ⟨t, hl1, rfl, ht, rfl⟩
      have := drop_nil' hl1
      simp only [List.length_map, List.length_range] at this
      have et : t = row.length / 2 := by omega
      subst et
      rw [List.take_of_length_le (by rw [pairsW_len]; omega)]
      simp only [backL]
      walk_at "dx"
      rw [nds_len]
      have fin : ∀ y' : Slot, (y' = .un ∨ ∃ d, y' = .val d) → (∃ m, m < k ∧ ∃ (row' : List Nat) (e' : Nat) (x'' y'' : Slot), row' ≠ [] ∧ row'.length = m ∧ valB (2 ^ e') row' = valB 128 ds ∧ (∀ d ∈ row', d < 2 ^ e') ∧ e' * (m - 1) ≤ 420000 ∧ m ≤ 60000 ∧ (y'' = .un ∨ ∃ d, y'' = .val d) ∧
          (⟨[.val (.lst (nds ds)), .val (.lst (nds (pairUp (2 ^ e) row))), .val (.int (((2 ^ e : Nat) : Int) * ((2 ^ e : Nat) : Int))), .val (.lst (nds (pairUp (2 ^ e) row))), y'], st⟩ : Sta) = ⟨[.val (.lst (nds ds)), .val (.lst (nds row')), .val (.int ((2 ^ e' : Nat) : Int)), x'', y''], st⟩) := fun y' hy' => by
        have hlen := pairUp_len (2 ^ e) row
        have ee : (2 ^ e) * (2 ^ e) = 2 ^ (2 * e) := by rw [← Nat.pow_add]; congr 1; omega
        refine ⟨(pairUp (2 ^ e) row).length, by omega, pairUp (2 ^ e) row, 2 * e, .val (.lst (nds (pairUp (2 ^ e) row))), y', fun z => by rw [z] at hlen; simp at hlen; omega, rfl, ?_, ?_, ?_, by omega, hy', ?_⟩
        · rw [← ee, pairUp_val]; exact hv
        · rw [← ee]; exact pairUp_lt epos hlt
        · rw [hlen]
          have q : 2 * e * ((row.length + 1) / 2 - 1) ≤ e * (k - 1) := by
            rw [Nat.mul_comm 2 e, Nat.mul_assoc]
            exact Nat.mul_le_mul_left e (by omega)
          omega
        · rw [← Int.natCast_mul, ee]
      have hy2 : ∀ yy : Slot, (match some yy with
          | some (Slot.val d) => Slot.val d
          | x => Slot.un) = .un ∨ ∃ d, (match some yy with
          | some (Slot.val d) => Slot.val d
          | x => Slot.un) = .val d := fun yy => by cases yy <;> simp
      have l1 : ((2 ^ e : Nat) : Int).natAbs.log2 ≤ e := log2_le (by rw [Int.natAbs_natCast]; exact Nat.le_refl _)
      have hpu := pairUp_of (2 ^ e) row
      refine ⟨by decide, ?_⟩
      by_cases hpar : row.length % 2 = 1
      · rw [if_pos (by omega), atI_nds (k := row.length - 1) (by omega) (by omega)]
        rw [dif_pos hpar] at hpu
        have e5 : nds (pairsW (2 ^ e) row) ++ [D.int ((row[row.length - 1] : Nat) : Int)] = nds (pairUp (2 ^ e) row) := by rw [hpu, nds_app]; rfl
        walk_at "dx"
        rw [e5]
        exact ⟨by rw [nds_len, pairsW_len]; omega, by omega, fin _ (hy2 y)⟩
      · rw [if_neg (by omega)]
        rw [dif_neg hpar] at hpu
        rw [← hpu]
        exact ⟨by omega, fin _ (hy2 y)⟩
end K80

end
section
set_option Elab.async false
set_option linter.all false
set_option maxRecDepth 100000
set_option autoImplicit false
namespace K80
open PySem DD
/-! ### reading a number -/
/-- how many octets from here on are 128 and more -/
def hi : List Nat → Nat
  | [] => 0
  | o :: r => if 128 ≤ o then hi r + 1 else 0
theorem hi_cons (o : Nat) (r : List Nat) : hi (o :: r) = if 128 ≤ o then hi r + 1 else 0 := rfl
theorem hi_le : ∀ os : List Nat, hi os ≤ os.length
  | [] => Nat.le_refl _
  | o :: r => by
    have := hi_le r
    unfold hi
    split <;> simp only [List.length_cons] <;> omega
theorem hi_at : ∀ (os : List Nat) (k : Nat) (h : k < hi os), 128 ≤ os[k]'(Nat.lt_of_lt_of_le h (hi_le os))
  | [], k, h => by simp [hi] at h
  | o :: r, 0, h => by
    unfold hi at h
    split at h
    · assumption
    · omega
  | o :: r, k + 1, h => by
    have h' : k < hi r := by
      unfold hi at h
      split at h <;> omega
    simpa using hi_at r k h'
theorem hi_end : ∀ (os : List Nat) (h : hi os < os.length), os[hi os] < 128
  | [], h => by simp at h
  | o :: r, h => by
    by_cases ho : 128 ≤ o
    · have e : hi (o :: r) = hi r + 1 := by rw [hi_cons, if_pos ho]
      simp only [e, List.getElem_cons_succ]
      exact hi_end r (by rw [e] at h; simpa using h)
    · have e : hi (o :: r) = 0 := by rw [hi_cons, if_neg ho]
      simp only [e, List.getElem_cons_zero]
      omega
/-- the figures read from octet at -/
def figs (os : List Nat) (a : Nat) : List Nat := ((os.drop a).take (hi (os.drop a))).map (· - 128)
def numR (os : List Nat) (a : Nat) : Option (Nat × Nat) := match os[a + hi (os.drop a)]? with
  | none => none
  | some d => if 0 < hi (os.drop a) ∧ d = 0 then none else some (valB 128 (figs os a ++ [d]), a + hi (os.drop a) + 1)
def numI (os : List Nat) (a : Int) : Option (Nat × Nat) := if a < 0 then none else numR os a.toNat
def resD : Option (Nat × Nat) → D
  | none => .non
  | some (v, e) => .tup [.int (v : Nat), .int (e : Nat)]
theorem rangeD_nil {lo hi : Int} (h : hi ≤ lo) : rangeD lo hi = [] := by
  unfold rangeD
  have : (hi - lo).toNat = 0 := by omega
  rw [this]; rfl
theorem rangeD_cons {lo hi : Int} (h : lo < hi) : rangeD lo hi = .int lo :: rangeD (lo + 1) hi := by
  unfold rangeD
  have : (hi - lo).toNat = (hi - (lo + 1)).toNat + 1 := by omega
  rw [this, List.range_succ_eq_map, List.map_cons, List.map_map]
  have e0 : D.int (lo + ((0 : Nat) : Int)) = D.int lo := by rw [Int.natCast_zero, Int.add_zero]
  rw [e0]
  congr 1
  apply List.map_congr_left
  intro a _
  show D.int (lo + ((a + 1 : Nat) : Int)) = D.int (lo + 1 + (a : Int))
  congr 1
  omega
theorem ev_rangeI2 {ga : M (List D)} {S : Sta} {Q : List D → Sta → Prop} {i j : Int} (h : Ev ga S fun ds S1 => ds = [.int i, .int j] ∧ (-(2 ^ 62) ≤ i ∧ i < 2 ^ 62 ∧ -(2 ^ 62) ≤ j ∧ j < 2 ^ 62) ∧ Q (rangeD i j) S1) : Ev (rangeI2 ga) S Q := by
  unfold rangeI2
  rw [ev_mb]
  refine h.mono fun ds S1 ⟨e, hc, q⟩ => ?_
  subst e
  show Ev (if -(2 ^ 62) ≤ i ∧ i < 2 ^ 62 ∧ -(2 ^ 62) ≤ j ∧ j < 2 ^ 62 then mp (rangeD i j) else fun _ => .bad) S1 Q
  rw [if_pos hc]
  exact ev_mp.mpr q
theorem ev_rangeI1 {ga : M (List D)} {S : Sta} {Q : List D → Sta → Prop} {j : Int} (h : Ev ga S fun ds S1 => ds = [.int j] ∧ (-(2 ^ 62) ≤ j ∧ j < 2 ^ 62) ∧ Q (rangeD 0 j) S1) : Ev (rangeI1 ga) S Q := by
  unfold rangeI1
  rw [ev_mb]
  refine h.mono fun ds S1 ⟨e, hc, q⟩ => ?_
  subst e
  show Ev (if -(2 ^ 62) ≤ j ∧ j < 2 ^ 62 then mp (rangeD 0 j) else fun _ => .bad) S1 Q
  rw [if_pos hc]
  exact ev_mp.mpr q
/-- behind the number, if it ends -/
def behR (os : List Nat) (a : Int) : D := if a < 0 then .non else if a.toNat + hi (os.drop a.toNat) < os.length then .int ((a.toNat + hi (os.drop a.toNat) + 1 : Nat) : Int) else .non
theorem drop_hi {os : List Nat} {a k : Nat} (h : k < hi (os.drop a)) : ∃ h : a + k < os.length, 128 ≤ os[a + k] := by
  have h1 := hi_le (os.drop a)
  rw [List.length_drop] at h1
  refine ⟨by omega, ?_⟩
  have := hi_at (os.drop a) k h
  rwa [List.getElem_drop] at this
theorem drop_end {os : List Nat} {a : Nat} (h : a + hi (os.drop a) < os.length) : os[a + hi (os.drop a)] < 128 := by
  have h1 : hi (os.drop a) < (os.drop a).length := by rw [List.length_drop]; omega
  have := hi_end (os.drop a) h1
  rwa [List.getElem_drop] at this
theorem behind_eq (G : Str → Addr) (os : List Nat) (a : Int) (st : DSt) (hz : os.length ≤ 60000) (ha : -(2 ^ 62) ≤ a) (ha2 : a < 2 ^ 62) : fn_behind_number G [.tup (nds os), .int a] st = .ok (.val (behR os a)) st := by
  refine fres_eq (fn_of rfl ?_)
  unfold b_behind_number
  show Ev _ ⟨[.val (.tup (nds os)), .val (.int a), .un], st⟩ _
  walk_at "dx"
  unfold behR
  by_cases h0 : a < 0
  · rw [if_pos h0, if_pos h0]
  · rw [if_neg h0, if_neg h0]
    obtain ⟨k, rfl⟩ : ∃ k : Nat, a = k := ⟨a.toNat, by omega⟩
    rw [Int.toNat_natCast]
    refine ev_rangeI2 (i := k) (j := (os.length : Nat)) ?_
    walk_at "dx"
    rw [nds_len]
    refine ⟨rfl, ⟨ha, ha2, by omega, by omega⟩, ?_⟩
    refine ev_forL (fun l S => ∃ (t : Nat) (x : Slot), l = rangeD ((k + t : Nat) : Int) os.length ∧ t ≤ hi (os.drop k) ∧ S = ⟨[.val (.tup (nds os)), .val (.int k), x], st⟩) ⟨0, .un, by rw [Nat.add_zero], Nat.zero_le _, rfl⟩ ?_ ?_
    · rintro d r S ⟨t, x, hl, ht, rfl⟩
      have hlt : k + t < os.length := by
        apply Classical.byContradiction
        intro z
        rw [rangeD_nil (by omega)] at hl
        cases hl
      rw [rangeD_cons (by omega)] at hl
      cases hl
      walk_at "dx"
      rw [atI_nds rfl hlt]
      walk_at "dx"
      by_cases hq : t < hi (os.drop k)
      · obtain ⟨_, h1⟩ := drop_hi hq
        rw [if_neg (by omega)]
        exact ⟨t + 1, _, by simp [Int.add_assoc], by omega, rfl⟩
      · have e : t = hi (os.drop k) := by omega
        subst e
        have := drop_end hlt
        rw [if_pos (by omega), if_pos hlt]
        simp [stOk_self]
    · rintro S ⟨t, x, hl, ht, rfl⟩
      have hge : ¬ k + t < os.length := fun z => by
        rw [rangeD_cons (by omega)] at hl
        cases hl
      walk_at "dx"
      rw [if_neg (by omega)]
theorem figs_len (os : List Nat) (a : Nat) : (figs os a).length = hi (os.drop a) := by
  unfold figs
  rw [List.length_map, List.length_take]
  have := hi_le (os.drop a)
  omega
theorem cut_nds (os : List Nat) (a b : Nat) (ha : a ≤ os.length) (hb : b ≤ os.length) : cutL (nds os) (some (a : Int)) (some (b : Int)) = nds ((os.drop a).take (b - a)) := by
  unfold cutL
  rw [nds_len, HT.sIx_nat, HT.sIx_nat]
  have e1 : min a os.length = a := by omega
  have e2 : min b os.length = b := by omega
  rw [e1, e2]
  unfold nds
  rw [← List.map_drop, ← List.map_take]
theorem figs_lt {os : List Nat} {a : Nat} (hb : ∀ o ∈ os, o < 256) : ∀ d ∈ figs os a, d < 128 := fun d hd => by
  unfold figs at hd
  obtain ⟨o, ho, rfl⟩ := List.mem_map.mp hd
  have := hb o (List.mem_of_mem_drop (List.mem_of_mem_take ho))
  omega
theorem number_in_eq (G : Str → Addr) (os : List Nat) (a : Int) (st : DSt) (hz : os.length < 60000) (hb : ∀ o ∈ os, o < 256) (ha : -(2 ^ 62) ≤ a) (ha2 : a < 2 ^ 62) : fn_number_in G [.tup (nds os), .int a] st = .ok (.val (resD (numI os a))) st := by
  refine fres_eq (fn_of rfl ?_)
  unfold b_number_in
  show Ev _ ⟨[.val (.tup (nds os)), .val (.int a), .un, .un, .un], st⟩ _
  have hs := sizeE
  walk_at "dx"
  rw [behind_eq G os a st (by omega) ha ha2]
  walk_at "dx"
  unfold behR numI
  have n1 : isD .non .non = some (.val (.bl true)) := rfl
  have n2 : ∀ i, isD (.int i) .non = some (.val (.bl false)) := fun _ => rfl
  by_cases h0 : a < 0
  · rw [if_pos h0, if_pos h0, n1]
    walk_at "dx"
    rfl
  · rw [if_neg h0, if_neg h0]
    obtain ⟨k, rfl⟩ : ∃ k : Nat, a = k := ⟨a.toNat, by omega⟩
    rw [Int.toNat_natCast]
    unfold numR
    by_cases hlt : k + hi (os.drop k) < os.length
    · rw [if_pos hlt, n2, List.getElem?_eq_getElem hlt]
      walk_at "dx"
      have hd := drop_end hlt
      rw [atI_nds (k := k + hi (os.drop k)) (by omega) hlt]
      walk_at "dx"
      by_cases hc : 0 < hi (os.drop k) ∧ os[k + hi (os.drop k)] = 0
      · rw [if_pos (by omega), if_pos (by omega), if_pos hc]
        rfl
      · rw [if_neg hc]
        have col : ∀ {A B : Prop}, (if (1 : Int) < ((k + hi (os.drop k) + 1 : Nat) : Int) - (k : Int) then (if ((os[k + hi (os.drop k)] : Nat) : Int) = 0 then A else B) else B) ↔ B := fun {A B} => by
          by_cases q1 : (1 : Int) < ((k + hi (os.drop k) + 1 : Nat) : Int) - (k : Int)
          · rw [if_pos q1, if_neg (by omega)]
          · rw [if_neg q1]
        rw [col]
        refine ev_compM ?_
        walk_at "dx"
        have ec : ((k + hi (os.drop k) + 1 : Nat) : Int) - 1 = ((k + hi (os.drop k) : Nat) : Int) := by omega
        have ecut : cutL (nds os) (some (k : Int)) (some ((k + hi (os.drop k) : Nat) : Int)) = nds ((os.drop k).take (hi (os.drop k))) := by
          rw [cut_nds os k _ (by omega) (by omega)]
          congr 2
          omega
        rw [ec, ecut]
        have hfl := figs_len os k
        refine ⟨fun l acc S => ∃ t, l = nds (((os.drop k).take (hi (os.drop k))).drop t) ∧ acc = nds ((figs os k).take t) ∧ S = ⟨[.val (.tup (nds os)), .val (.int k), .val (.int ((k + hi (os.drop k) + 1 : Nat) : Int)), .un, .un], st⟩, ⟨0, rfl, rfl, by simp [wipeL]⟩, ?_, ?_⟩
        · rintro d r acc S ⟨t, hl1, rfl, rfl⟩
          cases hr : ((os.drop k).take (hi (os.drop k))).drop t with
          | nil => rw [hr] at hl1; cases hl1
          | cons o rest =>
            rw [hr] at hl1
            cases hl1
            obtain ⟨ht, ho, hrest⟩ := drop_cons' hr
            have htl : t < hi (os.drop k) := by rw [List.length_take] at ht; omega
            have hge : 128 ≤ o := by
              rw [ho, List.getElem_take]
              exact hi_at (os.drop k) t htl
            walk_at "dx"
            refine ⟨by rw [nds_len, List.length_take]; omega, t + 1, by rw [hrest]; rfl, ?_, by simp [wipeL]⟩
            have ef : (figs os k)[t]? = some (o - 128) := by
              unfold figs
              rw [List.getElem?_map, List.getElem?_eq_getElem ht, ← ho]
              rfl
            rw [List.take_succ, ef, nds_app]
            have : ((o : Int) - 128) = ((o - 128 : Nat) : Int) := by omega
            rw [this]
            rfl
        · rintro acc S ⟨t, hl1, rfl, rfl⟩
          have ht : hi (os.drop k) ≤ t := by
            have e9 : ((os.drop k).take (hi (os.drop k))).drop t = [] := by
              cases hr : ((os.drop k).take (hi (os.drop k))).drop t with
              | nil => rfl
              | cons o rest => rw [hr] at hl1; cases hl1
            have := drop_nil' e9
            rw [List.length_take] at this
            have h2 := hi_le (os.drop k)
            omega
          rw [List.take_of_length_le (by omega)]
          simp only [backL]
          walk_at "dx"
          rw [ec, atI_nds rfl hlt]
          walk_at "dx"
          have eall : nds (figs os k) ++ [D.int ((os[k + hi (os.drop k)] : Nat) : Int)] = nds (figs os k ++ [os[k + hi (os.drop k)]]) := by rw [nds_app]; rfl
          rw [eall, number_of_eq G _ st (by simp) (fun d hd' => by
            rcases List.mem_append.mp hd' with q | q
            · exact figs_lt hb d q
            · rw [List.mem_singleton] at q; omega) (by rw [List.length_append, hfl]; simp; omega)]
          walk_at "dx"
          refine ⟨by decide, by rw [nds_len, hfl]; omega, by decide, ?_⟩
          simp only [resD]
    · rw [if_neg hlt, n1, List.getElem?_eq_none (by omega)]
      walk_at "dx"
      rfl
end K80

end
section
set_option Elab.async false
set_option linter.all false
set_option maxRecDepth 100000
set_option autoImplicit false
namespace K80
open PySem DD
/-! ### the law's own reader of numbers -/
theorem valB_app (B : Nat) : ∀ (l : List Nat) (d : Nat), valB B (l ++ [d]) = valB B l + B ^ l.length * d
  | [], d => by simp [valB]
  | a :: l, d => by
    simp only [List.cons_append, valB, valB_app B l d, List.length_cons]
    rw [Nat.mul_add, Nat.pow_succ, Nat.mul_comm (B ^ l.length) B, Nat.mul_assoc]
    omega
theorem log_pow (k : Nat) : (((128 ^ k : Nat)) : Int).natAbs.log2 ≤ 7 * k := by
  rw [Int.natAbs_natCast]
  have e : 128 ^ k = 2 ^ (7 * k) := by rw [show (128 : Nat) = 2 ^ 7 from rfl, ← Nat.pow_mul]
  exact log2_le (by rw [e]; exact Nat.le_refl _)
theorem take_fig {os : List Nat} {k t : Nat} (h : t < hi (os.drop k)) (ho : k + t < os.length) : (figs os k).take (t + 1) = (figs os k).take t ++ [os[k + t] - 128] := by
  have e : (figs os k)[t]? = some (os[k + t] - 128) := by
    unfold figs
    rw [List.getElem?_map, List.getElem?_take, if_pos h, List.getElem?_drop, List.getElem?_eq_getElem ho]
    rfl
  rw [List.take_succ, e]
  rfl
theorem law_number_at_eq (G : Str → Addr) (os : List Nat) (a : Int) (st : DSt) (hz : os.length < 60000) (hb : ∀ o ∈ os, o < 256) : fn__law_number_at G [.lst (nds os), .int a] st = .ok (.val (resD (numI os a))) st := by
  refine fres_eq (fn_of rfl ?_)
  unfold b__law_number_at
  show Ev _ ⟨[.val (.lst (nds os)), .val (.int a), .un, .un, .un], st⟩ _
  have hs := sizeE
  walk_at "dx"
  unfold numI
  by_cases h0 : a < 0
  · rw [if_pos h0, if_pos h0]
    rfl
  · rw [if_neg h0, if_neg h0]
    obtain ⟨k, rfl⟩ : ∃ k : Nat, a = k := ⟨a.toNat, by omega⟩
    rw [Int.toNat_natCast]
    have hfl := figs_len os k
    have hle := hi_le (os.drop k)
    rw [List.length_drop] at hle
    refine ev_while (fun m S => ∃ t : Nat, m + t = hi (os.drop k) ∧ S = ⟨[.val (.lst (nds os)), .val (.int k), .val (.int (valB 128 ((figs os k).take t) : Nat)), .val (.int ((128 ^ t : Nat) : Int)), .val (.int ((k + t : Nat) : Int))], st⟩) (hi (os.drop k)) ⟨0, rfl, rfl⟩ ?_
    rintro m S ⟨t, hm, rfl⟩
    have hlog := log_pow t
    walk_at "dx"
    rw [nds_len]
    by_cases hlt : k + t < os.length
    · rw [if_pos (by omega), atI_nds rfl hlt]
      have hbo := hb _ (List.getElem_mem hlt)
      have hbl : ∀ x : Int, x.natAbs < 256 → x.natAbs.log2 ≤ 7 := fun x hx => log2_lt (by omega)
      walk_at "dx"
      by_cases hq : t < hi (os.drop k)
      · obtain ⟨_, h1⟩ := drop_hi hq
        have hl1 := hbl (((os[k + t] : Nat) : Int) - 128) (by omega)
        rw [if_pos (by omega)]
        have l128 : (Int.natAbs 128).log2 = 7 := by decide +kernel
        refine ⟨by omega, by omega, hi (os.drop k) - (t + 1), by omega, t + 1, by omega, ?_⟩
        have e1 : ((valB 128 ((figs os k).take t) : Nat) : Int) + ((128 ^ t : Nat) : Int) * (((os[k + t] : Nat) : Int) - 128) = ((valB 128 ((figs os k).take (t + 1)) : Nat) : Int) := by
          rw [take_fig hq hlt, valB_app, List.length_take, hfl, Nat.min_eq_left (by omega), Int.natCast_add, Int.natCast_mul]
          congr 2
          omega
        have e2 : ((128 ^ t : Nat) : Int) * 128 = ((128 ^ (t + 1) : Nat) : Int) := by rw [Nat.pow_succ]; omega
        have e3 : ((k + t : Nat) : Int) + 1 = ((k + (t + 1) : Nat) : Int) := by omega
        rw [e1, e2, e3]
      · have e : t = hi (os.drop k) := by omega
        subst e
        have hd := drop_end hlt
        have hl1 := hbl ((os[k + hi (os.drop k)] : Nat) : Int) (by omega)
        rw [if_neg (by omega), if_neg (by omega)]
        unfold numR
        rw [List.getElem?_eq_getElem hlt]
        dsimp only
        by_cases hc : 0 < hi (os.drop k) ∧ os[k + hi (os.drop k)] = 0
        · rw [if_pos hc, if_pos (by omega), if_pos (by omega)]
          rfl
        · rw [if_neg hc]
          have col : ∀ {A B : Prop}, (if (k : Int) < ((k + hi (os.drop k) : Nat) : Int) then (if ((os[k + hi (os.drop k)] : Nat) : Int) = 0 then A else B) else B) ↔ B := fun {A B} => by
            by_cases q1 : (k : Int) < ((k + hi (os.drop k) : Nat) : Int)
            · rw [if_pos q1, if_neg (by omega)]
            · rw [if_neg q1]
          rw [col]
          refine ⟨by omega, by decide, ?_⟩
          rw [List.take_of_length_le (by omega)]
          simp only [resD]
          rw [valB_app, hfl]
          simp only [Int.natCast_add, Int.natCast_mul, Int.natCast_one]
    · rw [if_neg (by omega), if_pos (by omega)]
      unfold numR
      have ht : t = hi (os.drop k) := by omega
      subst ht
      rw [List.getElem?_eq_none (by omega)]
      rfl
/-! ### sums -/
def sumW : Nat → List Nat → Nat
  | _, [] => 0
  | k, o :: r => (k + 1) * o + sumW (k + 1) r
theorem sumW_le : ∀ (os : List Nat) (k : Nat), (∀ o ∈ os, o < 256) → sumW k os ≤ (k + os.length) * 256 * os.length
  | [], k, _ => Nat.zero_le _
  | o :: r, k, h => by
    have h1 := sumW_le r (k + 1) fun x hx => h x (List.mem_cons_of_mem _ hx)
    have h2 := h o List.mem_cons_self
    simp only [sumW, List.length_cons]
    have h3 : (k + 1) * o ≤ (k + 1) * 256 := Nat.mul_le_mul_left _ (by omega)
    have e1 : k + 1 + r.length = k + (r.length + 1) := by omega
    rw [e1] at h1
    have e2 : (k + (r.length + 1)) * 256 * (r.length + 1) = (k + (r.length + 1)) * 256 * r.length + (k + (r.length + 1)) * 256 := by rw [Nat.mul_add, Nat.mul_one]
    have h4 : (k + 1) * 256 ≤ (k + (r.length + 1)) * 256 := Nat.mul_le_mul_right _ (by omega)
    omega
theorem enum_cons (d : D) (ds : List D) (k : Nat) : ((d :: ds).zipIdx k).map (fun p => D.tup [.int (p.2 : Nat), p.1]) = D.tup [.int (k : Nat), d] :: (ds.zipIdx (k + 1)).map fun p => D.tup [.int (p.2 : Nat), p.1] := by
  rw [List.zipIdx_cons, List.map_cons]
theorem log_small {n : Nat} (h : n < 2 ^ 100) : (n : Int).natAbs.log2 ≤ 99 := log2_lt (by rw [Int.natAbs_natCast]; exact h)
theorem sum_of_octets_eq (G : Str → Addr) (os : List Nat) (st : DSt) (hz : os.length < 60000) (hb : ∀ o ∈ os, o < 256) : fn_sum_of_octets G [.tup (nds os)] st = .ok (.val (.int ((sumW 0 os : Nat) % 65521 : Int))) st := by
  refine fres_eq (fn_of rfl ?_)
  unfold b_sum_of_octets
  show Ev _ ⟨[.val (.tup (nds os)), .un, .un, .un], st⟩ _
  walk_at "dx"
  unfold enumAI
  walk_at "dx"
  show Ev _ _ _
  refine ev_forL (fun l S => ∃ (k s : Nat) (r : List Nat) (x y : Slot), l = ((nds r).zipIdx k).map (fun p => D.tup [.int (p.2 : Nat), p.1]) ∧ (∀ o ∈ r, o < 256) ∧ k + r.length = os.length ∧ s + sumW k r = sumW 0 os ∧ S = ⟨[.val (.tup (nds os)), .val (.int (s : Nat)), x, y], st⟩) ⟨0, 0, os, .un, .un, rfl, hb, by simp, by simp, rfl⟩ ?_ ?_
  · rintro d l S ⟨k, s, r, x, y, hl, hr, hk, hs, rfl⟩
    cases r with
    | nil => cases hl
    | cons o r =>
      have hl' := hl
      unfold nds at hl'
      rw [List.map_cons, enum_cons] at hl'
      cases hl'
      have ho := hr o List.mem_cons_self
      simp only [List.length_cons] at hk
      walk_at "dx"
      have l1 : ((k : Int) + 1).natAbs.log2 ≤ 99 := by
        have := log_small (n := k + 1) (by omega)
        rw [Int.natCast_add] at this
        exact this
      have l2 := log_small (n := o) (by omega)
      refine ⟨by omega, k + 1, s + (k + 1) * o, r, .val (.int (k : Nat)), .val (.int (o : Nat)), rfl, fun z hz => hr z (List.mem_cons_of_mem _ hz), by omega, by rw [← hs]; simp only [sumW]; omega, ?_⟩
      simp only [Int.natCast_add, Int.natCast_mul, Int.natCast_one]
  · rintro S ⟨k, s, r, x, y, hl, hr, hk, hs, rfl⟩
    have hr0 : r = [] := by
      cases r with
      | nil => rfl
      | cons o r => unfold nds at hl; rw [List.map_cons, enum_cons] at hl; cases hl
    subst hr0
    simp only [sumW, Nat.add_zero] at hs
    subst hs
    walk_at "dx"
    decide
theorem allInts_nds (l : List Nat) : allInts (nds l) = some (l.map fun n => ((n : Nat) : Int)) := by
  have : nds l = (l.map fun n => ((n : Nat) : Int)).map D.int := by unfold nds; rw [List.map_map]; rfl
  rw [this, allInts_map]
theorem sum_range : ∀ (os : List Nat) (k : Nat), ((List.range os.length).map fun i => ((os.getD i 0 : Nat) : Int) * ((0 : Int) + (i : Int) + (k : Int) + 1)).sum = ((sumW k os : Nat) : Int)
  | [], k => rfl
  | o :: r, k => by
    rw [List.length_cons, List.range_succ_eq_map, List.map_cons, List.sum_cons, List.map_map]
    have ih := sum_range r (k + 1)
    have e : (List.range r.length).map ((fun i => (((o :: r).getD i 0 : Nat) : Int) * ((0 : Int) + (i : Int) + (k : Int) + 1)) ∘ Nat.succ) = (List.range r.length).map fun i => ((r.getD i 0 : Nat) : Int) * ((0 : Int) + (i : Int) + ((k + 1 : Nat) : Int) + 1) := by
      apply List.map_congr_left
      intro i _
      show (((o :: r).getD (i + 1) 0 : Nat) : Int) * ((0 : Int) + ((i + 1 : Nat) : Int) + (k : Int) + 1) = _
      have e1 : (o :: r).getD (i + 1) 0 = r.getD i 0 := rfl
      rw [e1]
      congr 1
      omega
    rw [e, ih]
    show (((o :: r).getD 0 0 : Nat) : Int) * ((0 : Int) + ((0 : Nat) : Int) + (k : Int) + 1) + _ = _
    have e1 : (o :: r).getD 0 0 = o := rfl
    rw [e1]
    simp only [sumW, Int.natCast_add, Int.natCast_mul, Int.natCast_one, Int.zero_add, Int.natCast_zero]
    rw [Int.mul_comm]
theorem law_sum_eq (G : Str → Addr) (os : List Nat) (st : DSt) (hz : os.length < 60000) (hb : ∀ o ∈ os, o < 256) : fn__law_sum G [.lst (nds os)] st = .ok (.val (.int ((sumW 0 os : Nat) % 65521 : Int))) st := by
  generalize hR : ((sumW 0 os : Nat) % 65521 : Int) = res
  refine fres_eq (fn_of rfl ?_)
  unfold b__law_sum
  show Ev _ ⟨[.val (.lst (nds os)), .un], st⟩ _
  have hs := sizeE
  walk_at "dx"
  refine ev_map (S := ⟨[.val (.lst (nds os)), .un], st⟩) (ds := rangeD 0 os.length) (g := fun d => match d with
    | .int i => .int ((os.getD i.toNat 0 : Nat) * (i + 1))
    | _ => .non) (show 1 < 2 by decide) ?_ ?_ ?_ ?_
  · refine ev_rangeI1 (j := (os.length : Nat)) ?_
    walk_at "dx"
    rw [nds_len]
    have b1 : -(2 ^ 62) ≤ ((os.length : Nat) : Int) := by omega
    have b2 : ((os.length : Nat) : Int) < 2 ^ 62 := by omega
    exact ⟨rfl, b1, b2⟩
  · unfold rangeD
    rw [List.length_map, List.length_range]
    omega
  · intro d hd
    unfold rangeD at hd
    obtain ⟨i, hi, rfl⟩ := List.mem_map.mp hd
    have hi' : i < os.length := by have := List.mem_range.mp hi; omega
    walk_at "dx"
    rw [atI_nds (k := i) (by omega) hi']
    walk_at "dx"
    have ho := hb _ (List.getElem_mem hi')
    have l2 := log_small (n := os[i]) (by omega)
    have l1 : ((0 : Int) + (i : Int) + 1).natAbs.log2 ≤ 99 := by
      have := log_small (n := i + 1) (by omega)
      rw [Int.natCast_add] at this
      rw [Int.zero_add]
      exact this
    refine ⟨by omega, ?_⟩
    have e : ((0 : Int) + (i : Int)).toNat = i := by omega
    rw [e, List.getD_eq_getElem?_getD, List.getElem?_eq_getElem hi']
    rfl
  · have emap : (rangeD 0 os.length).map (fun d => match d with
      | .int i => D.int ((os.getD i.toNat 0 : Nat) * (i + 1))
      | _ => .non) = ((List.range os.length).map fun i => ((os.getD i 0 : Nat) : Int) * ((0 : Int) + (i : Int) + ((0 : Nat) : Int) + 1)).map D.int := by
      unfold rangeD
      rw [List.map_map, List.map_map]
      have e1 : ((os.length : Int) - 0).toNat = os.length := by omega
      rw [e1]
      apply List.map_congr_left
      intro i _
      show D.int ((os.getD ((0 : Int) + (i : Int)).toNat 0 : Nat) * ((0 : Int) + (i : Int) + 1)) = D.int _
      have e : ((0 : Int) + (i : Int)).toNat = i := by omega
      rw [e]
      congr 2
    have esum : sumD [.lst (((List.range os.length).map fun i => ((os.getD i 0 : Nat) : Int) * ((0 : Int) + (i : Int) + ((0 : Nat) : Int) + 1)).map D.int)] = some (.val (.int ((sumW 0 os : Nat) : Int))) := by
      show (allInts _).map (fun ns => R.val (.int ns.sum)) = _
      rw [allInts_map]
      show some (R.val (.int _)) = _
      rw [sum_range]
    rw [emap]
    simp only [backL]
    walk_at "dx"
    rw [esum]
    walk_at "dx"
    rw [hR]
    exact ⟨by decide, rfl⟩
/-! ### what is drawn -/
def DS (st : DSt) : Prop := ∃ cs m, st = some (cs, m) ∧ DIv cs m
theorem any_ev (G : Str → Addr) (b : Int) (st : DSt) (hb : 0 < b) (hb2 : b < 2 ^ 4000) (h : DS st) : fres (fun r st' => ∃ v : Nat, r = .val (.int (v : Nat)) ∧ (v : Int) < b ∧ stOk st st' = true ∧ DS st') (fn__law_any G [.deal, .int b] st) := by
  obtain ⟨cs, m, rfl, hD⟩ := h
  refine fres_mono (any_spec G b hb (by
    have : b.natAbs.log2 ≤ 4000 := log2_lt (by omega)
    omega) cs m hD) ?_
  rintro r st' ⟨v, cs', m', rfl, h0, h1, rfl, hD'⟩
  exact ⟨v.toNat, by rw [Int.toNat_of_nonneg h0], by omega, rfl, cs', m', rfl, hD'⟩
theorem of_ev (G : Str → Addr) (ds : List D) (st : DSt) (hd : ds ≠ []) (hz : ds.length ≤ sizeLine) (h : DS st) : fres (fun r st' => ∃ d, r = .val d ∧ d ∈ ds ∧ stOk st st' = true ∧ DS st') (fn__law_of G [.deal, .lst ds] st) := by
  obtain ⟨cs, m, rfl, hD⟩ := h
  refine fres_mono (of_spec G ds hd hz cs m hD) ?_
  rintro r st' ⟨d, cs', m', rfl, h0, rfl, hD'⟩
  exact ⟨d, rfl, h0, rfl, cs', m', rfl, hD'⟩
theorem of_str_ev (G : Str → Addr) (z : Str) (st : DSt) (hd : 0 < z.length) (hz : z.length ≤ sizeLine) (h : DS st) : fres (fun r st' => ∃ c, r = .val (.str ⟨#[c]⟩) ∧ c ∈ z.cps.toList ∧ stOk st st' = true ∧ DS st') (fn__law_of G [.deal, .str z] st) := by
  obtain ⟨cs, m, rfl, hD⟩ := h
  refine fres_mono (of_str G z hd hz cs m hD) ?_
  rintro r st' ⟨d, cs', m', rfl, h0, rfl, hD'⟩
  exact ⟨d, rfl, h0, rfl, cs', m', rfl, hD'⟩
theorem stOk_trans {a b c : DSt} (h : stOk a b = true) (h' : stOk b c = true) : stOk a c = true := by
  cases a <;> cases b <;> cases c <;> simp_all [stOk]
theorem octet_ev (G : Str → Addr) (st : DSt) (h : DS st) : fres (fun r st' => ∃ o : Nat, r = .val (.int (o : Nat)) ∧ o < 256 ∧ stOk st st' = true ∧ DS st') (fn__law_octet G [.deal] st) := by
  refine fn_of rfl ?_
  unfold b__law_octet
  show Ev _ ⟨[.val .deal], st⟩ _
  walk_at "dx"
  refine fres_mono (any_ev G 256 st (by decide) (by decide +kernel) h) ?_
  rintro r st1 ⟨v1, rfl, h1, k1, D1⟩
  walk_at "dx"
  refine ⟨k1, ?_⟩
  refine fres_mono (any_ev G 256 st1 (by decide) (by decide +kernel) D1) ?_
  rintro r st2 ⟨v2, rfl, h2, k2, D2⟩
  walk_at "dx"
  refine ⟨k2, ?_⟩
  refine fres_mono (any_ev G 128 st2 (by decide) (by decide +kernel) D2) ?_
  rintro r st3 ⟨v3, rfl, h3, k3, D3⟩
  walk_at "dx"
  refine ⟨k3, by decide, ?_⟩
  refine fres_mono (of_ev G _ st3 (by simp) (show 8 ≤ sizeLine by decide) D3) ?_
  rintro r st4 ⟨d, rfl, hd, k4, D4⟩
  have kk := stOk_trans (stOk_trans (stOk_trans k1 k2) k3) k4
  refine ⟨k4, kk, ?_⟩
  simp only [List.mem_cons, List.not_mem_nil, or_false] at hd
  rcases hd with rfl | rfl | rfl | rfl | rfl | rfl | rfl | rfl
  · exact ⟨0, rfl, by decide, kk, D4⟩
  · exact ⟨1, rfl, by decide, kk, D4⟩
  · exact ⟨127, rfl, by decide, kk, D4⟩
  · exact ⟨128, rfl, by decide, kk, D4⟩
  · exact ⟨255, rfl, by decide, kk, D4⟩
  · exact ⟨v1, rfl, by omega, kk, D4⟩
  · exact ⟨v2, rfl, by omega, kk, D4⟩
  · exact ⟨v3, rfl, by omega, kk, D4⟩
theorem list_of_nats : ∀ {l : List D}, (∀ d ∈ l, ∃ o : Nat, d = .int (o : Nat) ∧ o < 256) → ∃ os : List Nat, l = nds os ∧ ∀ o ∈ os, o < 256
  | [], _ => ⟨[], rfl, by simp⟩
  | d :: l, h => by
    obtain ⟨o, rfl, ho⟩ := h d List.mem_cons_self
    obtain ⟨os, rfl, hos⟩ := list_of_nats fun x hx => h x (List.mem_cons_of_mem _ hx)
    exact ⟨o :: os, rfl, fun x hx => by
      rcases List.mem_cons.mp hx with rfl | q
      · exact ho
      · exact hos x q⟩
end K80

end
section
set_option Elab.async false
set_option linter.all false
set_option maxRecDepth 100000
set_option autoImplicit false
namespace K80
open PySem DD
/-! ### frames -/
def sm (os : List Nat) : Nat := sumW 0 os % 65521
def sumP (os : List Nat) : List Nat := [sm os % 256, sm os / 256]
theorem sm_lt (os : List Nat) : sm os < 65521 := Nat.mod_lt _ (by decide)
theorem sm_int (os : List Nat) : ((sumW 0 os : Nat) % 65521 : Int) = ((sm os : Nat) : Int) := by unfold sm; omega
theorem sum_pair_eq (G : Str → Addr) (os : List Nat) (st : DSt) (hz : os.length < 60000) (hb : ∀ o ∈ os, o < 256) : fn_sum_pair G [.tup (nds os)] st = .ok (.val (.tup (nds (sumP os)))) st := by
  refine fres_eq (fn_of rfl ?_)
  unfold b_sum_pair
  show Ev _ ⟨[.val (.tup (nds os)), .un], st⟩ _
  walk_at "dx"
  rw [sum_of_octets_eq G os st hz hb, sm_int]
  walk_at "dx"
  refine ⟨by decide, by decide, by decide, ?_⟩
  have e1 : ((sm os : Nat) : Int) % 256 = ((sm os % 256 : Nat) : Int) := by omega
  have e2 : ((sm os : Nat) : Int) / 256 = ((sm os / 256 : Nat) : Int) := by omega
  rw [e1, e2]
  rfl
def framed (b : List Nat) : List Nat := octs b.length ++ b ++ sumP b
theorem octs_len : ∀ (k n : Nat), n < 128 ^ (k + 1) → (octs n).length ≤ k + 1
  | 0, n, h => by rw [octs_lt (by simpa using h)]; simp
  | k + 1, n, h => by
    by_cases h1 : n < 128
    · rw [octs_lt h1]; simp
    · rw [octs_ge h1, List.length_cons]
      have : n / 128 < 128 ^ (k + 1) := by
        rw [Nat.div_lt_iff_lt_mul (by decide), ← Nat.pow_succ]
        exact h
      have := octs_len k (n / 128) this
      omega
theorem octs_mem : ∀ (n : Nat), ∀ o ∈ octs n, o < 256 := by
  intro n
  induction n using Nat.strongRecOn with
  | _ n ih =>
    intro o ho
    by_cases h : n < 128
    · rw [octs_lt h] at ho
      simp only [List.mem_singleton] at ho
      omega
    · rw [octs_ge h] at ho
      rcases List.mem_cons.mp ho with rfl | q
      · omega
      · exact ih (n / 128) (by omega) o q
theorem octs3 {n : Nat} (h : n < 60000) : (octs n).length ≤ 3 := octs_len 2 n (by omega)
theorem sumP_mem (b : List Nat) : ∀ o ∈ sumP b, o < 256 := fun o ho => by
  have := sm_lt b
  unfold sumP at ho
  simp only [List.mem_cons, List.not_mem_nil, or_false] at ho
  omega
theorem mem_app256 {a b : List Nat} (ha : ∀ o ∈ a, o < 256) (hb : ∀ o ∈ b, o < 256) : ∀ o ∈ a ++ b, o < 256 := fun o ho => by
  rcases List.mem_append.mp ho with q | q
  · exact ha o q
  · exact hb o q
theorem framed_mem {b : List Nat} (hb : ∀ o ∈ b, o < 256) : ∀ o ∈ framed b, o < 256 := mem_app256 (mem_app256 (octs_mem _) hb) (sumP_mem _)
theorem framed_len (b : List Nat) : (framed b).length = (octs b.length).length + b.length + 2 := by simp [framed, sumP]; omega
theorem frame_eq (G : Str → Addr) (b : List Nat) (st : DSt) (hz : b.length < 50000) (hb : ∀ o ∈ b, o < 256) : fn_frame G [.tup (nds b)] st = .ok (.val (.tup (nds (framed b)))) st := by
  refine fres_eq (fn_of rfl ?_)
  unfold b_frame
  show Ev _ ⟨[.val (.tup (nds b))], st⟩ _
  have hs := sizeE
  have h3 := octs3 (n := b.length) (by omega)
  walk_at "dx"
  rw [nds_len, number_octets_eq G _ st (by omega)]
  walk_at "dx"
  rw [sum_pair_eq G b st (by omega) hb]
  walk_at "dx"
  rw [← nds_app, ← nds_app, nds_len, nds_len, nds_len]
  have : (sumP b).length = 2 := rfl
  exact ⟨by omega, by omega, rfl⟩
theorem law_framed_eq (G : Str → Addr) (b : List Nat) (st : DSt) (hz : b.length < 50000) (hb : ∀ o ∈ b, o < 256) : fn__law_framed G [.lst (nds b)] st = .ok (.own (.lst (nds (framed b)))) st := by
  refine fres_eq (fn_of rfl ?_)
  unfold b__law_framed
  show Ev _ ⟨[.val (.lst (nds b)), .un], st⟩ _
  have hs := sizeE
  have h3 := octs3 (n := b.length) (by omega)
  walk_at "dx"
  rw [law_sum_eq G b st (by omega) hb, sm_int]
  walk_at "dx"
  rw [nds_len, law_number_octets_eq G _ st (by omega)]
  walk_at "dx"
  have e1 : ((sm b : Nat) : Int) % 256 = ((sm b % 256 : Nat) : Int) := by omega
  have e2 : ((sm b : Nat) : Int) / 256 = ((sm b / 256 : Nat) : Int) := by omega
  rw [e1, e2]
  have e3 : [D.int ((sm b % 256 : Nat) : Int), D.int ((sm b / 256 : Nat) : Int)] = nds (sumP b) := rfl
  rw [e3, ← nds_app, ← nds_app, nds_len, nds_len]
  exact ⟨by omega, by decide, by decide, by decide, by omega, rfl⟩
/-- what stands at a place, read as a frame -/
def frR (os : List Nat) (a : Nat) : Option (List Nat × Nat) := match numI os a with
  | none => none
  | some (v, e) => if os.length < v + 2 + e then none else
    if (os.drop (e + v)).take 2 = sumP ((os.drop e).take v) then some ((os.drop e).take v, e + v + 2) else none
def frD (f : List D → D) : Option (List Nat × Nat) → D
  | none => .non
  | some (b, e) => .tup [f (nds b), .int (e : Nat)]
theorem numR_end {os : List Nat} {a v e : Nat} (h : numI os (a : Nat) = some (v, e)) : a < e ∧ e ≤ os.length := by
  unfold numI at h
  rw [if_neg (by omega), Int.toNat_natCast] at h
  unfold numR at h
  cases hd : os[a + hi (os.drop a)]? with
  | none => rw [hd] at h; cases h
  | some d =>
    rw [hd] at h
    have h' : (if 0 < hi (os.drop a) ∧ d = 0 then none else some (valB 128 (figs os a ++ [d]), a + hi (os.drop a) + 1)) = some (v, e) := h
    have hl : a + hi (os.drop a) < os.length := by
      apply Classical.byContradiction
      intro z
      rw [List.getElem?_eq_none (by omega)] at hd
      cases hd
    split at h'
    · cases h'
    · cases h'
      omega
theorem frR_end {os : List Nat} {a e : Nat} {b : List Nat} (h : frR os a = some (b, e)) : a + 3 ≤ e ∧ e ≤ os.length ∧ b.length + a + 3 ≤ e ∧ ∀ o ∈ b, o ∈ os := by
  unfold frR at h
  cases hn : numI os (a : Nat) with
  | none => rw [hn] at h; cases h
  | some p =>
    obtain ⟨v, e1⟩ := p
    obtain ⟨h1, h2⟩ := numR_end hn
    rw [hn] at h
    have h' : (if os.length < v + 2 + e1 then none else if (os.drop (e1 + v)).take 2 = sumP ((os.drop e1).take v) then some ((os.drop e1).take v, e1 + v + 2) else none) = some (b, e) := h
    split at h'
    · cases h'
    · split at h'
      · cases h'
        refine ⟨by omega, by omega, by rw [List.length_take]; omega, fun o ho => List.mem_of_mem_drop (List.mem_of_mem_take ho)⟩
      · cases h'
theorem nds_inj : ∀ {l m : List Nat}, nds l = nds m → l = m
  | [], [], _ => rfl
  | [], _ :: _, h => by cases h
  | _ :: _, [], h => by cases h
  | a :: l, b :: m, h => by
    have h' : D.int (a : Nat) :: nds l = D.int (b : Nat) :: nds m := h
    injection h' with h1 h2
    injection h1 with h3
    rw [nds_inj h2, Int.ofNat.inj h3]
theorem pys_nds : ∀ l : List Nat, pys (nds l) = some (l.map fun n => PyData.int (n : Nat))
  | [] => rfl
  | n :: l => by
    have e : nds (n :: l) = .int (n : Nat) :: nds l := rfl
    rw [e]
    simp only [pys, D.py, pys_nds l, List.map_cons]
theorem lay_nds : ∀ l : List Nat, PyData.canLayAll0 (l.map fun n => PyData.int (n : Nat)) = true ∧ PyData.depthAll (l.map fun n => PyData.int (n : Nat)) = 0
  | [] => ⟨rfl, rfl⟩
  | n :: l => by
    obtain ⟨h1, h2⟩ := lay_nds l
    simp only [List.map_cons, PyData.canLayAll0, PyData.canLay0, PyData.depthAll, PyData.depth, h1, h2]
    exact ⟨rfl, rfl⟩
theorem eqv_nds : ∀ l m : List Nat, PyData.eqvAll (l.map fun n => PyData.int (n : Nat)) (m.map fun n => PyData.int (n : Nat)) = decide (l = m)
  | [], [] => by simp [PyData.eqvAll]
  | [], _ :: _ => by simp [PyData.eqvAll]
  | _ :: _, [] => by simp [PyData.eqvAll]
  | a :: l, b :: m => by
    simp only [List.map_cons, PyData.eqvAll, PyData.eqv, eqv_nds l m]
    by_cases h : a = b
    · subst h; simp
    · have : ((a : Int) == (b : Int)) = false := by
        rw [beq_eq_false_iff_ne]; omega
      rw [this]
      simp [h]
theorem shaped_nds (l : List Nat) : SeqAt.shaped (.tuple (l.map fun n => PyData.int (n : Nat))) = true := by
  obtain ⟨h1, h2⟩ := lay_nds l
  unfold SeqAt.shaped
  simp only [PyData.canLay0, PyData.depth, h1, h2]
  rfl
theorem neD_nds (l m : List Nat) : neD (.tup (nds l)) (.tup (nds m)) = some (.val (.bl (!decide (l = m)))) := by
  unfold neD eqvD
  simp only [D.py, pys_nds, Option.map_some, shaped_nds, Bool.and_self, if_true, PyData.eqv, eqv_nds]
theorem frame_at_eq (G : Str → Addr) (os : List Nat) (a : Nat) (st : DSt) (hz : os.length < 50000) (hb : ∀ o ∈ os, o < 256) (ha : a < 2 ^ 60) : fn_frame_at G [.tup (nds os), .int (a : Nat)] st = .ok (.val (frD .tup (frR os a))) st := by
  refine fres_eq (fn_of rfl ?_)
  unfold b_frame_at
  show Ev _ ⟨[.val (.tup (nds os)), .val (.int (a : Nat)), .un, .un, .un], st⟩ _
  have hs := sizeE
  walk_at "dx"
  rw [number_in_eq G os a st (by omega) hb (by omega) (by omega)]
  walk_at "dx"
  unfold frR
  have n1 : isD .non .non = some (.val (.bl true)) := rfl
  have n2 : ∀ l, isD (.tup l) .non = some (.val (.bl false)) := fun _ => rfl
  cases hn : numI os (a : Nat) with
  | none =>
    simp only [resD]
    rw [n1]
    walk_at "dx"
    rfl
  | some p =>
    obtain ⟨v, e⟩ := p
    obtain ⟨h1, h2⟩ := numR_end hn
    simp only [resD]
    have t0 : ∀ x y : D, L2.atI [x, y] 0 = some x := fun _ _ => rfl
    have t1 : ∀ x y : D, L2.atI [x, y] 1 = some y := fun _ _ => rfl
    rw [n2]
    walk_at "dx"
    simp only [t0, t1, opt_some]
    walk_at "dx"
    rw [nds_len]
    by_cases hc : os.length < v + 2 + e
    · rw [if_pos (by omega), if_pos hc]
      rfl
    · rw [if_neg (by omega), if_neg hc]
      have c1 : cutL (nds os) (some (e : Int)) (some ((v : Int) + (e : Int))) = nds ((os.drop e).take v) := by
        have q : (v : Int) + (e : Int) = ((e + v : Nat) : Int) := by omega
        rw [q, cut_nds os e _ (by omega) (by omega)]
        congr 2
        omega
      have c2 : cutL (nds os) (some ((v : Int) + (e : Int))) (some ((v : Int) + (e : Int) + 2)) = nds ((os.drop (e + v)).take 2) := by
        have q : (v : Int) + (e : Int) = ((e + v : Nat) : Int) := by omega
        have q2 : (v : Int) + (e : Int) + 2 = ((e + v + 2 : Nat) : Int) := by omega
        rw [q2, q, cut_nds os (e + v) _ (by omega) (by omega)]
        congr 2
        omega
      rw [c1, c2]
      have hl : ((os.drop e).take v).length < 50000 := by rw [List.length_take, List.length_drop]; omega
      have hm : ∀ o ∈ (os.drop e).take v, o < 256 := fun o ho => hb o (List.mem_of_mem_drop (List.mem_of_mem_take ho))
      rw [sum_pair_eq G _ st (by omega) hm]
      walk_at "dx"
      rw [neD_nds]
      by_cases hq : (os.drop (e + v)).take 2 = sumP ((os.drop e).take v)
      · rw [if_pos hq, decide_eq_true hq]
        walk_at "dx"
        rw [if_neg (by decide)]
        refine ⟨by decide, ?_⟩
        have q : (v : Int) + (e : Int) + 2 = ((e + v + 2 : Nat) : Int) := by omega
        rw [q]
        rfl
      · rw [if_neg hq, decide_eq_false hq]
        walk_at "dx"
        rfl
end K80

end
section
set_option Elab.async false
set_option linter.all false
set_option maxRecDepth 100000
set_option autoImplicit false
namespace K80
open PySem DD
/-- all frames from a place on, with so many turns -/
def frs (os : List Nat) : Nat → Nat → List (List Nat) × Nat
  | 0, p => ([], p)
  | n + 1, p => match frR os p with
    | none => ([], p)
    | some (b, e) => (b :: (frs os n e).1, (frs os n e).2)
theorem frs_none {os : List Nat} {p : Nat} (h : frR os p = none) : ∀ n, frs os n p = ([], p)
  | 0 => rfl
  | n + 1 => by unfold frs; rw [h]
theorem frs_some {os : List Nat} {p e n : Nat} {b : List Nat} (h : frR os p = some (b, e)) : frs os (n + 1) p = (b :: (frs os n e).1, (frs os n e).2) := by
  rw [frs, h]
def bodD (f : List D → D) (l : List (List Nat)) : List D := l.map fun b => f (nds b)
def frsD (os : List Nat) : D := .tup [.tup (bodD .tup (frs os (os.length + 1) 0).1), .int ((frs os (os.length + 1) 0).2 : Nat)]
theorem bodD_len (f : List D → D) (l : List (List Nat)) : (bodD f l).length = l.length := by simp [bodD]
theorem frs_len (os : List Nat) : ∀ (n p : Nat), (frs os n p).1.length ≤ n
  | 0, p => Nat.le_refl _
  | n + 1, p => by
    cases h : frR os p with
    | none => rw [frs_none h]; exact Nat.zero_le _
    | some q =>
      obtain ⟨b, e⟩ := q
      rw [frs_some h, List.length_cons]
      have := frs_len os n e
      omega
theorem frames_eq (G : Str → Addr) (os : List Nat) (st : DSt) (hz : os.length < 50000) (hb : ∀ o ∈ os, o < 256) : fn_frames G [.tup (nds os)] st = .ok (.val (frsD os)) st := by
  refine fres_eq (fn_of rfl ?_)
  unfold b_frames
  show Ev _ ⟨[.val (.tup (nds os)), .un, .un, .un], st⟩ _
  have hs := sizeE
  walk_at "dx"
  have n1 : isnD .non .non = some (.val (.bl false)) := rfl
  have n2 : ∀ l, isnD (.tup l) .non = some (.val (.bl true)) := fun _ => rfl
  have t0 : ∀ x y : D, L2.atI [x, y] 0 = some x := fun _ _ => rfl
  have t1 : ∀ x y : D, L2.atI [x, y] 1 = some y := fun _ _ => rfl
  have f0 : fn_frame_at G [.tup (nds os), .int 0] st = _ := frame_at_eq G os 0 st hz hb (by decide)
  rw [f0]
  walk_at "dx"
  refine ⟨Nat.zero_le _, ?_⟩
  refine ev_while (fun m S => ∃ (acc : List (List Nat)) (p : Nat), acc ++ (frs os m p).1 = (frs os (os.length + 1) 0).1 ∧ (frs os m p).2 = (frs os (os.length + 1) 0).2 ∧ os.length < m + p ∧ p ≤ os.length ∧ acc.length + m ≤ os.length + 1 ∧
      S = ⟨[.val (.tup (nds os)), .own (.lst (bodD .tup acc)), .val (.int (p : Nat)), .val (frD .tup (frR os p))], st⟩) (os.length + 1) ⟨[], 0, rfl, rfl, by omega, Nat.zero_le _, by simp, rfl⟩ ?_
  rintro m S ⟨acc, p, h1, h2, h3, h4, h5, rfl⟩
  walk_at "dx"
  cases hf : frR os p with
  | none =>
    simp only [frD]
    rw [n1]
    walk_at "dx"
    rw [frs_none hf] at h1 h2
    simp only [List.append_nil] at h1 h2
    refine ⟨by decide, ?_⟩
    unfold frsD
    rw [← h1, ← h2]
  | some q =>
    obtain ⟨b, e⟩ := q
    obtain ⟨g1, g2, g3, g4⟩ := frR_end hf
    obtain ⟨m, rfl⟩ : ∃ m', m = m' + 1 := ⟨m - 1, by omega⟩
    have fd : frD .tup (some (b, e)) = .tup [.tup (nds b), .int (e : Nat)] := rfl
    rw [fd, n2]
    walk_at "dx"
    simp only [t0, t1, opt_some]
    rw [frame_at_eq G os e st hz hb (by omega)]
    walk_at "dx"
    rw [frs_some hf] at h1 h2
    rw [bodD_len]
    refine ⟨by omega, m, by omega, acc ++ [b], e, by rw [← h1]; simp, h2, by omega, by omega, by simp; omega, ?_⟩
    unfold bodD
    rw [List.map_append]
    rfl
end K80

end
section
set_option Elab.async false
set_option linter.all false
set_option maxRecDepth 100000
set_option autoImplicit false
namespace K80
open PySem DD
theorem take2 {os : List Nat} {k x y : Nat} (h : k + 2 ≤ os.length) : ((os.drop k).take 2 = [x, y]) ↔ (os[k]'(by omega) = x ∧ os[k + 1]'(by omega) = y) := by
  have e : (os.drop k).take 2 = [os[k]'(by omega), os[k + 1]'(by omega)] := by
    rw [List.drop_eq_getElem_cons (by omega), List.drop_eq_getElem_cons (by omega)]
    rfl
  rw [e]
  simp
def frsL (os : List Nat) : D := .tup [.lst (bodD .lst (frs os (os.length + 1) 0).1), .int ((frs os (os.length + 1) 0).2 : Nat)]
theorem law_frames_in_eq (G : Str → Addr) (os : List Nat) (st : DSt) (hz : os.length < 50000) (hb : ∀ o ∈ os, o < 256) : fn__law_frames_in G [.lst (nds os)] st = .ok (.val (frsL os)) st := by
  refine fres_eq (fn_of rfl ?_)
  unfold b__law_frames_in
  show Ev _ ⟨[.val (.lst (nds os)), .un, .un, .un, .un, .un, .un, .un], st⟩ _
  have hs := sizeE
  have n1 : isD .non .non = some (.val (.bl true)) := rfl
  have n2 : ∀ l, isD (.tup l) .non = some (.val (.bl false)) := fun _ => rfl
  have t0 : ∀ x y : D, L2.atI [x, y] 0 = some x := fun _ _ => rfl
  have t1 : ∀ x y : D, L2.atI [x, y] 1 = some y := fun _ _ => rfl
  walk_at "dx"
  refine ⟨Nat.zero_le _, ?_⟩
  refine ev_rangeI1 (j := (os.length + 1 : Nat)) ?_
  walk_at "dx"
  rw [nds_len]
  refine ⟨rfl, ⟨by omega, by omega⟩, ?_⟩
  refine ev_forL (fun l S => ∃ (acc : List (List Nat)) (p t : Nat) (x3 x4 x5 x6 x7 : Slot), l = rangeD (t : Nat) ((os.length + 1 : Nat) : Int) ∧ t ≤ os.length + 1 ∧
      acc ++ (frs os (os.length + 1 - t) p).1 = (frs os (os.length + 1) 0).1 ∧ (frs os (os.length + 1 - t) p).2 = (frs os (os.length + 1) 0).2 ∧ p ≤ os.length ∧ acc.length ≤ t ∧
      S = ⟨[.val (.lst (nds os)), .own (.lst (bodD .lst acc)), .val (.int (p : Nat)), x3, x4, x5, x6, x7], st⟩)
    ⟨[], 0, 0, .un, .un, .un, .un, .un, rfl, by omega, rfl, rfl, Nat.zero_le _, Nat.le_refl _, rfl⟩ ?_ ?_
  · rintro d r S ⟨acc, p, t, x3, x4, x5, x6, x7, hl, ht, h1, h2, h3, h4, rfl⟩
    have hlt : t < os.length + 1 := by
      apply Classical.byContradiction
      intro z
      rw [rangeD_nil (by omega)] at hl
      cases hl
    rw [rangeD_cons (by omega)] at hl
    cases hl
    have et : os.length + 1 - t = (os.length + 1 - (t + 1)) + 1 := by omega
    rw [et] at h1 h2
    walk_at "dx"
    rw [law_number_at_eq G os p st (by omega) hb]
    walk_at "dx"
    cases hn : numI os (p : Nat) with
    | none =>
      have hf : frR os p = none := by unfold frR; rw [hn]
      rw [frs_none hf] at h1 h2
      simp only [List.append_nil] at h1 h2
      have rd0 : resD none = .non := rfl
      rw [rd0, n1]
      walk_at "dx"
      refine ⟨by decide, ?_⟩
      unfold frsL
      rw [← h1, ← h2]
    | some q =>
      obtain ⟨v, e⟩ := q
      obtain ⟨g1, g2⟩ := numR_end hn
      have rd0 : resD (some (v, e)) = .tup [.int (v : Nat), .int (e : Nat)] := rfl
      rw [rd0, n2]
      walk_at "dx"
      simp only [t0, t1, opt_some]
      walk_at "dx"
      rw [nds_len]
      by_cases hc : os.length < v + 2 + e
      · have hf : frR os p = none := by
          unfold frR; rw [hn]
          show (if _ then _ else _) = _
          rw [if_pos hc]
        rw [frs_none hf] at h1 h2
        simp only [List.append_nil] at h1 h2
        rw [if_pos (by omega)]
        refine ⟨by decide, ?_⟩
        unfold frsL
        rw [← h1, ← h2]
      · have hf : frR os p = if (os.drop (e + v)).take 2 = sumP ((os.drop e).take v) then some ((os.drop e).take v, e + v + 2) else none := by
          unfold frR; rw [hn]
          show (if _ then _ else _) = _
          rw [if_neg hc]
        have c1 : cutL (nds os) (some (e : Int)) (some ((e : Int) + (v : Int))) = nds ((os.drop e).take v) := by
          have q : (e : Int) + (v : Int) = ((e + v : Nat) : Int) := by omega
          rw [q, cut_nds os e _ (by omega) (by omega)]
          congr 2
          omega
        have hl : ((os.drop e).take v).length < 50000 := by rw [List.length_take, List.length_drop]; omega
        have hm : ∀ o ∈ (os.drop e).take v, o < 256 := fun o ho => hb o (List.mem_of_mem_drop (List.mem_of_mem_take ho))
        rw [if_neg (by omega), c1]
        generalize hbd : (os.drop e).take v = bd at hl hm hf ⊢
        rw [law_sum_eq G bd st (by omega) hm, sm_int]
        walk_at "dx"
        have a1 : L2.atI (nds os) ((e : Int) + (v : Int)) = some (.int (os[e + v]'(by omega) : Nat)) := atI_nds (by omega) (by omega)
        have a2 : L2.atI (nds os) ((e : Int) + (v : Int) + 1) = some (.int (os[e + v + 1]'(by omega) : Nat)) := atI_nds (by omega) (by omega)
        rw [a1]
        have ne : ∀ x y : Int, neD (.int x) (.int y) = some (.val (.bl (!(x == y)))) := fun _ _ => rfl
        walk_at "dx"
        simp only [ne, a2, opt_some]
        have bool : ∀ b : Bool, (R.val (.bl b)).d.bool? = some b := fun _ => rfl
        simp only [bool, opt_some]
        have hw : (os.drop (e + v)).take 2 = sumP bd ↔ _ := take2 (x := sm bd % 256) (y := sm bd / 256) (show e + v + 2 ≤ os.length by omega)
        have stop : ((os.drop (e + v)).take 2 ≠ sumP bd) → 2 ≤ sizeLine ∧ R.val (D.tup [D.lst (bodD D.lst acc), D.int (p : Nat)]) = R.val (frsL os) := fun z => by
          rw [if_neg z] at hf
          rw [frs_none hf] at h1 h2
          simp only [List.append_nil] at h1 h2
          refine ⟨by decide, ?_⟩
          unfold frsL
          rw [← h1, ← h2]
        refine ⟨by decide, ?_⟩
        by_cases q1 : os[e + v]'(by omega) = sm bd % 256
        · rw [if_neg (by omega)]
          refine ⟨⟨by decide, by decide⟩, ?_⟩
          by_cases q2 : os[e + v + 1]'(by omega) = sm bd / 256
          · have q3 : (((os[e + v + 1]'(by omega) : Nat) : Int) == ((sm bd : Nat) : Int) / 256) = true := by rw [beq_iff_eq]; omega
            rw [q3, if_neg (by decide)]
            rw [if_pos (hw.mpr ⟨q1, q2⟩)] at hf
            rw [frs_some hf] at h1 h2
            rw [bodD_len]
            refine ⟨by decide, by omega, acc ++ [bd], e + v + 2, t + 1, .val (.int (t : Nat)), .val (.tup [.int (v : Nat), .int (e : Nat)]), .val (.lst (nds bd)), .val (.int ((e : Int) + (v : Int))), .val (.int (sm bd : Nat)), rfl, by omega, by rw [← h1]; simp, h2, by omega, by simp; omega, ?_⟩
            unfold bodD
            rw [List.map_append]
            have q : (e : Int) + (v : Int) + 2 = ((e + v + 2 : Nat) : Int) := by omega
            rw [q]
            rfl
          · have q3 : (((os[e + v + 1]'(by omega) : Nat) : Int) == ((sm bd : Nat) : Int) / 256) = false := by rw [beq_eq_false_iff_ne]; omega
            rw [q3, if_pos (by decide)]
            exact stop fun z => q2 (hw.mp z).2
        · rw [if_pos (by omega)]
          exact stop fun z => q1 (hw.mp z).1
  · rintro S ⟨acc, p, t, x3, x4, x5, x6, x7, hl, ht, h1, h2, h3, h4, rfl⟩
    have et : t = os.length + 1 := by
      apply Classical.byContradiction
      intro z
      rw [rangeD_cons (by omega)] at hl
      cases hl
    subst et
    rw [Nat.sub_self] at h1 h2
    have z0 : frs os 0 p = ([], p) := rfl
    rw [z0] at h1 h2
    simp only [List.append_nil] at h1 h2
    walk_at "dx"
    refine ⟨by decide, ?_⟩
    unfold frsL
    rw [← h1, ← h2]
end K80

end
section
set_option Elab.async false
set_option linter.all false
set_option maxRecDepth 100000
set_option autoImplicit false
namespace K80
open PySem DD
theorem law_due_eq (G : Str → Addr) (os : List Nat) (st : DSt) (hz : os.length < 50000) (hb : ∀ o ∈ os, o < 256) : fn__law_due G [.lst (nds os)] st = .ok (.val (frsD os)) st := by
  refine fres_eq (fn_of rfl ?_)
  unfold b__law_due
  show Ev _ ⟨[.val (.lst (nds os)), .un, .un, .un], st⟩ _
  have hs := sizeE
  have hl := frs_len os (os.length + 1) 0
  walk_at "dx"
  rw [law_frames_in_eq G os st hz hb]
  walk_at "dx"
  unfold frsL
  generalize hA : frs os (os.length + 1) 0 = A at hl ⊢
  have hp : D.parts (.tup [.lst (bodD .lst A.1), .int (A.2 : Nat)]) = some [.lst (bodD .lst A.1), .int (A.2 : Nat)] := rfl
  walk_at "dx"
  refine ev_map (S := ⟨[.val (.lst (nds os)), .val (.lst (bodD .lst A.1)), .val (.int (A.2 : Nat)), .un], st⟩) (ds := bodD .lst A.1) (g := fun d => match d with
    | .lst l => .tup l
    | _ => .non) (show 3 < 4 by decide) (by walk_at "dx") (by rw [bodD_len]; omega) ?_ ?_
  · intro d hd
    obtain ⟨b, _, rfl⟩ := List.mem_map.mp hd
    walk_at "dx"
  · have e : (bodD .lst A.1).map (fun d => match d with
      | .lst l => D.tup l
      | _ => .non) = bodD .tup A.1 := by
      unfold bodD
      rw [List.map_map]
      rfl
    rw [e]
    simp only [backL]
    walk_at "dx"
    refine ⟨by decide, ?_⟩
    unfold frsD
    rw [hA]
theorem law_joined_eq (G : Str → Addr) (rs : List (List Nat)) (st : DSt) (hz : rs.flatten.length < 60000) : fn__law_joined G [.lst (bodD .lst rs)] st = .ok (.own (.lst (nds rs.flatten))) st := by
  refine fres_eq (fn_of rfl ?_)
  unfold b__law_joined
  show Ev _ ⟨[.val (.lst (bodD .lst rs)), .un, .un], st⟩ _
  have hs := sizeE
  walk_at "dx"
  refine ⟨Nat.zero_le _, ?_⟩
  refine ev_forL (fun l S => ∃ (a r : List (List Nat)) (x : Slot), a ++ r = rs ∧ l = bodD .lst r ∧ S = ⟨[.val (.lst (bodD .lst rs)), .own (.lst (nds a.flatten)), x], st⟩) ⟨[], rs, .un, rfl, rfl, rfl⟩ ?_ ?_
  · rintro d r S ⟨a, rr, x, ha, hl, rfl⟩
    cases rr with
    | nil => cases hl
    | cons b rr =>
      cases hl
      have hle : a.flatten.length + (b.length + rr.flatten.length) = rs.flatten.length := by rw [← ha]; simp
      walk_at "dx"
      rw [nds_len, nds_len]
      refine ⟨by omega, a ++ [b], rr, .val (.lst (nds b)), by rw [← ha]; simp, rfl, ?_⟩
      rw [List.flatten_append, List.flatten_cons, List.flatten_nil, List.append_nil, nds_app]
  · rintro S ⟨a, rr, x, ha, hl, rfl⟩
    have hr : rr = [] := by
      cases rr with
      | nil => rfl
      | cons b rr => cases hl
    subst hr
    rw [List.append_nil] at ha
    subst ha
    walk_at "dx"
end K80

end
section
set_option Elab.async false
set_option linter.all false
set_option maxRecDepth 100000
set_option autoImplicit false
namespace K80
open PySem DD
theorem rangeD_len (n : Nat) : (rangeD 0 (n : Nat)).length = n := by
  unfold rangeD
  rw [List.length_map, List.length_range]
  omega
theorem rangeD_mem {n : Nat} {d : D} (h : d ∈ rangeD 0 (n : Nat)) : ∃ i : Nat, d = .int (i : Nat) ∧ i < n := by
  unfold rangeD at h
  obtain ⟨i, hi, rfl⟩ := List.mem_map.mp h
  exact ⟨i, by rw [Int.zero_add], by have := List.mem_range.mp hi; omega⟩
theorem some_body_ev (G : Str → Addr) (st : DSt) (h : DS st) : fres (fun r st' => ∃ b : List Nat, r = .own (.lst (nds b)) ∧ b.length ≤ 300 ∧ (∀ o ∈ b, o < 256) ∧ stOk st st' = true ∧ DS st') (fn__law_some_body G [.deal] st) := by
  refine fn_of rfl ?_
  unfold b__law_some_body
  show Ev _ ⟨[.val .deal, .un, .un, .un, .un], st⟩ _
  have hs := sizeE
  walk_at "dx"
  refine ⟨by decide, ?_⟩
  refine fres_mono (of_ev G _ st (by simp) (show 10 ≤ sizeLine by decide) h) ?_
  rintro r st1 ⟨d, rfl, hd, k1, D1⟩
  obtain ⟨n, rfl, hn⟩ : ∃ n : Nat, d = .int (n : Nat) ∧ n ≤ 300 := by
    simp only [List.mem_cons, List.not_mem_nil, or_false] at hd
    rcases hd with rfl | rfl | rfl | rfl | rfl | rfl | rfl | rfl | rfl | rfl
    · exact ⟨0, rfl, by decide⟩
    · exact ⟨1, rfl, by decide⟩
    · exact ⟨2, rfl, by decide⟩
    · exact ⟨5, rfl, by decide⟩
    · exact ⟨20, rfl, by decide⟩
    · exact ⟨126, rfl, by decide⟩
    · exact ⟨127, rfl, by decide⟩
    · exact ⟨128, rfl, by decide⟩
    · exact ⟨129, rfl, by decide⟩
    · exact ⟨300, rfl, by decide⟩
  refine ⟨k1, ?_⟩
  walk_at "dx"
  have fin : ∀ (l : List D) (st2 : DSt), l.length = n → (∀ d ∈ l, ∃ o : Nat, d = .int (o : Nat) ∧ o < 256) → stOk st st2 = true → DS st2 →
      (stOk st st2 = true ∧ ∃ b : List Nat, R.own (.lst l) = .own (.lst (nds b)) ∧ b.length ≤ 300 ∧ (∀ o ∈ b, o < 256) ∧ stOk st st2 = true ∧ DS st2) := fun l st2 h1 h2 h3 h4 => by
    obtain ⟨os, rfl, ho⟩ := list_of_nats h2
    rw [nds_len] at h1
    exact ⟨h3, os, rfl, by omega, ho, h3, h4⟩
  by_cases h30 : 30 < n
  · rw [if_pos (by omega)]
    refine fres_mono (octet_ev G st1 D1) ?_
    rintro r st2 ⟨o, rfl, ho, k2, D2⟩
    refine ⟨k2, by decide, ?_⟩
    refine fres_mono (of_ev G _ st2 (by simp) (show 4 ≤ sizeLine by decide) D2) ?_
    rintro r st3 ⟨d, rfl, hd3, k3, D3⟩
    obtain ⟨s, rfl, hsl⟩ : ∃ s : Nat, d = .int (s : Nat) ∧ s ≤ 128 := by
      simp only [List.mem_cons, List.not_mem_nil, or_false] at hd3
      rcases hd3 with rfl | rfl | rfl | rfl
      · exact ⟨0, rfl, by decide⟩
      · exact ⟨1, rfl, by decide⟩
      · exact ⟨7, rfl, by decide⟩
      · exact ⟨128, rfl, by decide⟩
    refine ⟨k3, by decide, ?_⟩
    refine ev_drawn (S := ⟨[.val .deal, .val (.int (n : Nat)), .val (.int (o : Nat)), .val (.int (s : Nat)), .un], st3⟩) (ds := rangeD 0 (n : Nat)) (P := fun d => ∃ o : Nat, d = .int (o : Nat) ∧ o < 256) (J := fun st' => st' = st3) (show 4 < 5 by decide) rfl ?_ (by rw [rangeD_len]; omega) ?_ ?_
    · refine ev_rangeI1 (j := (n : Nat)) ?_
      walk_at "dx"
      have b1 : -(2 ^ 62) ≤ ((n : Nat) : Int) := by omega
      have b2 : ((n : Nat) : Int) < 2 ^ 62 := by omega
      exact ⟨b1, b2⟩
    · rintro d hd st' rfl
      obtain ⟨i, rfl, hi⟩ := rangeD_mem hd
      walk_at "dx"
      have l1 := log_small (n := i) (by omega)
      have l2 := log_small (n := s) (by omega)
      have e : ((o : Int) + (i : Int) * (s : Int)) % 256 = (((o + i * s) % 256 : Nat) : Int) := by
        rw [Int.natCast_emod, Int.natCast_add, Int.natCast_mul]
        rfl
      exact ⟨by omega, by decide, ⟨_, by rw [e], Nat.mod_lt _ (by decide)⟩, st', rfl, rfl⟩
    · rintro l st' h1 h2 rfl
      rw [rangeD_len] at h1
      exact fin l st' h1 h2 (stOk_trans (stOk_trans k1 k2) k3) D3
  · rw [if_neg (by omega)]
    refine ev_drawn (S := ⟨[.val .deal, .val (.int (n : Nat)), .un, .un, .un], st1⟩) (ds := rangeD 0 (n : Nat)) (P := fun d => ∃ o : Nat, d = .int (o : Nat) ∧ o < 256) (J := fun st' => DS st' ∧ stOk st st' = true) (show 4 < 5 by decide) ⟨D1, k1⟩ ?_ (by rw [rangeD_len]; omega) ?_ ?_
    · refine ev_rangeI1 (j := (n : Nat)) ?_
      walk_at "dx"
      have b1 : -(2 ^ 62) ≤ ((n : Nat) : Int) := by omega
      have b2 : ((n : Nat) : Int) < 2 ^ 62 := by omega
      exact ⟨b1, b2⟩
    · rintro d hd st' ⟨D2, k2⟩
      walk_at "dx"
      refine fres_mono (octet_ev G st' D2) ?_
      rintro r st3 ⟨o, rfl, ho, k3, D3⟩
      exact ⟨k3, ⟨o, rfl, ho⟩, st3, ⟨D3, stOk_trans k2 k3⟩, rfl⟩
    · rintro l st' h1 h2 ⟨D2, k2⟩
      rw [rangeD_len] at h1
      exact fin l st' h1 h2 k2 D2
end K80

end
section
set_option Elab.async false
set_option linter.all false
set_option maxRecDepth 100000
set_option autoImplicit false
namespace K80
open PySem DD
theorem nds_cut_l (os : List Nat) (a : Nat) (h : a ≤ os.length) : cutL (nds os) none (some (a : Int)) = nds (os.take a) := by
  unfold cutL
  rw [nds_len, HT.sIx_nat, HT.sIx_none]
  have e1 : min a os.length = a := by omega
  rw [e1, List.drop_zero, Nat.sub_zero]
  unfold nds
  rw [← List.map_take]
theorem nds_cut_r (os : List Nat) (a : Nat) (h : a ≤ os.length) : cutL (nds os) (some (a : Int)) none = nds (os.drop a) := by
  unfold cutL
  rw [nds_len, HT.sIx_nat, HT.sIx_none]
  have e1 : min a os.length = a := by omega
  rw [e1]
  unfold nds
  rw [← List.map_drop, List.take_of_length_le (by simp)]
theorem bent_ev (G : Str → Addr) (os : List Nat) (st : DSt) (hz : os.length < 40000) (hb : ∀ o ∈ os, o < 256) (h : DS st) :
    fres (fun r st' => ∃ b : List Nat, (r = .val (.lst (nds b)) ∨ r = .own (.lst (nds b))) ∧ b.length ≤ os.length + 1 ∧ (∀ o ∈ b, o < 256) ∧ stOk st st' = true ∧ DS st') (fn__law_bent G [.deal, .lst (nds os)] st) := by
  refine fn_of rfl ?_
  unfold b__law_bent
  show Ev _ ⟨[.val .deal, .val (.lst (nds os)), .un, .un], st⟩ _
  have hs := sizeE
  walk_at "dx"
  rw [nds_len]
  by_cases h0 : os.length = 0
  · rw [if_pos (by omega)]
    exact ⟨os, .inl rfl, by omega, hb, h⟩
  · rw [if_neg (by omega)]
    refine fres_mono (any_ev G (os.length : Nat) st (by omega) (Int.lt_trans (by omega : ((os.length : Nat) : Int) < 40000) (by decide +kernel)) h) ?_
    rintro r st1 ⟨a, rfl, ha, k1, D1⟩
    refine ⟨k1, ?_⟩
    refine fres_mono (any_ev G 4 st1 (by decide) (by decide +kernel) D1) ?_
    rintro r st2 ⟨s, rfl, hs2, k2, D2⟩
    refine ⟨k2, ?_⟩
    have c1 : cutL (nds os) none (some (a : Int)) = nds (os.take a) := nds_cut_l os a (by omega)
    have c2 : cutL (nds os) (some (a : Int)) none = nds (os.drop a) := nds_cut_r os a (by omega)
    have c3 : cutL (nds os) (some ((a : Int) + 1)) none = nds (os.drop (a + 1)) := nds_cut_r os (a + 1) (by omega)
    walk_at "dx"
    rw [c1, c2, c3]
    have kk := stOk_trans k1 k2
    have m1 : ∀ o ∈ os.take a, o < 256 := fun o ho => hb o (List.mem_of_mem_take ho)
    have m2 : ∀ k, ∀ o ∈ os.drop k, o < 256 := fun k o ho => hb o (List.mem_of_mem_drop ho)
    have l1 : (os.take a).length = a := by rw [List.length_take]; omega
    have l2 : ∀ k, (os.drop k).length = os.length - k := fun k => List.length_drop
    have one : ∀ (x : Nat) (st3 : DSt) (k : Nat), x < 256 → a ≤ k → stOk st st3 = true → DS st3 → (nds (os.take a)).length + 1 ≤ sizeLine ∧ (nds (os.take a)).length + 1 + (nds (os.drop k)).length ≤ sizeLine ∧ stOk st st3 = true ∧
        ∃ b : List Nat, (R.own (.lst (nds (os.take a) ++ [D.int (x : Nat)] ++ nds (os.drop k))) = .val (.lst (nds b)) ∨ R.own (.lst (nds (os.take a) ++ [D.int (x : Nat)] ++ nds (os.drop k))) = .own (.lst (nds b))) ∧ b.length ≤ os.length + 1 ∧ (∀ o ∈ b, o < 256) ∧ stOk st st3 = true ∧ DS st3 := fun x st3 k hx hk k3 D3 => by
      rw [nds_len, nds_len, l1, l2]
      refine ⟨by omega, by omega, k3, os.take a ++ [x] ++ os.drop k, .inr ?_, ?_, ?_, k3, D3⟩
      · rw [nds_app, nds_app]; rfl
      · rw [List.length_append, List.length_append, l1, l2]; simp; omega
      · refine mem_app256 (mem_app256 m1 fun o ho => ?_) (m2 k)
        rw [List.mem_singleton] at ho; omega
    by_cases s0 : s = 0
    · rw [if_pos (by omega), nds_len, nds_len, l1, l2]
      refine ⟨by omega, kk, os.take a ++ os.drop (a + 1), .inr (by rw [nds_app]), by rw [List.length_append, l1, l2]; omega, mem_app256 m1 (m2 _), kk, D2⟩
    · rw [if_neg (by omega)]
      by_cases s1 : s = 1
      · rw [if_pos (by omega)]
        refine fres_mono (octet_ev G st2 D2) ?_
        rintro r st3 ⟨x, rfl, hx, k3, D3⟩
        exact ⟨k3, by decide, one x st3 a hx (Nat.le_refl _) (stOk_trans kk k3) D3⟩
      · rw [if_neg (by omega), atI_nds (k := a) rfl (by omega)]
        walk_at "dx"
        refine fres_mono (any_ev G 255 st2 (by decide) (by decide +kernel) D2) ?_
        rintro r st3 ⟨x, rfl, hx, k3, D3⟩
        refine ⟨k3, ?_⟩
        walk_at "dx"
        refine ⟨by decide, ?_⟩
        refine fres_mono (of_ev G _ st3 (by simp) (show 4 ≤ sizeLine by decide) D3) ?_
        rintro r st4 ⟨d, rfl, hd, k4, D4⟩
        refine ⟨k4, ?_⟩
        obtain ⟨y, rfl⟩ : ∃ y : Nat, d = .int (y : Nat) := by
          simp only [List.mem_cons, List.not_mem_nil, or_false] at hd
          rcases hd with rfl | rfl | rfl | rfl
          · exact ⟨1, rfl⟩
          · exact ⟨128, rfl⟩
          · exact ⟨255, rfl⟩
          · exact ⟨1 + x, rfl⟩
        walk_at "dx"
        have e : (((os[a]'(by omega) : Nat) : Int) + (y : Int)) % 256 = (((os[a]'(by omega) + y) % 256 : Nat) : Int) := by
          rw [Int.natCast_emod, Int.natCast_add]
          rfl
        rw [e]
        exact ⟨by decide, by decide, one _ st4 (a + 1) (Nat.mod_lt _ (by decide)) (by omega) (stOk_trans (stOk_trans kk k3) k4) D4⟩
end K80

end
section
set_option Elab.async false
set_option linter.all false
set_option maxRecDepth 100000
set_option autoImplicit false
namespace K80
open PySem DD
/-! ### what is framed is read -/
theorem octs_read : ∀ (n : Nat) (rest : List Nat), hi (octs n ++ rest) + 1 = (octs n).length ∧ ∃ d, (octs n ++ rest)[hi (octs n ++ rest)]? = some d ∧ (0 < hi (octs n ++ rest) → d ≠ 0) ∧ (0 < n → hi (octs n ++ rest) = 0 → d ≠ 0) ∧
    valB 128 (((octs n ++ rest).take (hi (octs n ++ rest))).map (· - 128) ++ [d]) = n := by
  intro n
  induction n using Nat.strongRecOn with
  | _ n ih =>
    intro rest
    by_cases h : n < 128
    · rw [octs_lt h]
      have e : hi ([n] ++ rest) = 0 := by show hi (n :: rest) = 0; rw [hi_cons, if_neg (by omega)]
      rw [e]
      exact ⟨rfl, n, rfl, fun q => absurd q (by decide), fun q _ => by omega, by simp [valB]⟩
    · rw [octs_ge h]
      obtain ⟨i1, d, i2, i3, i4, i5⟩ := ih (n / 128) (by omega) rest
      have e : hi ((128 + n % 128) :: octs (n / 128) ++ rest) = hi (octs (n / 128) ++ rest) + 1 := by
        show hi ((128 + n % 128) :: (octs (n / 128) ++ rest)) = _
        rw [hi_cons, if_pos (by omega)]
      rw [e]
      refine ⟨by rw [i1, List.length_cons], d, by simpa using i2, fun _ => ?_, fun _ q => absurd q (by omega), ?_⟩
      · by_cases q : 0 < hi (octs (n / 128) ++ rest)
        · exact i3 q
        · exact i4 (by omega) (by omega)
      · show valB 128 ((128 + n % 128 - 128) :: (((octs (n / 128) ++ rest).take (hi (octs (n / 128) ++ rest))).map (· - 128) ++ [d])) = n
        simp only [valB, i5]
        omega
theorem numI_own (ahead rest : List Nat) (n : Nat) : numI (ahead ++ (octs n ++ rest)) (ahead.length : Nat) = some (n, ahead.length + (octs n).length) := by
  unfold numI
  rw [if_neg (by omega), Int.toNat_natCast]
  unfold numR figs
  rw [List.drop_left]
  obtain ⟨h1, d, h2, h3, _, h5⟩ := octs_read n rest
  have hg : (ahead ++ (octs n ++ rest))[ahead.length + hi (octs n ++ rest)]? = some d := by
    rw [List.getElem?_append_right (by omega)]
    rw [Nat.add_sub_cancel_left]
    exact h2
  rw [hg]
  show (if _ then _ else _) = _
  rw [if_neg (fun z => h3 z.1 z.2), h5]
  congr 2
  omega
theorem frR_own (ahead rest b : List Nat) : frR (ahead ++ (framed b ++ rest)) ahead.length = some (b, ahead.length + (framed b).length) := by
  have e : ahead ++ (framed b ++ rest) = ahead ++ (octs b.length ++ (b ++ (sumP b ++ rest))) := by unfold framed; simp
  have l2 : (sumP b).length = 2 := rfl
  rw [e]
  unfold frR
  rw [numI_own]
  show (if _ then _ else _) = _
  have d1 : (ahead ++ (octs b.length ++ (b ++ (sumP b ++ rest)))).drop (ahead.length + (octs b.length).length) = b ++ (sumP b ++ rest) := by
    rw [← List.append_assoc, ← List.length_append, List.drop_left]
  have d2 : (ahead ++ (octs b.length ++ (b ++ (sumP b ++ rest)))).drop (ahead.length + (octs b.length).length + b.length) = sumP b ++ rest := by
    rw [← List.append_assoc, ← List.append_assoc, ← List.length_append, ← List.length_append, List.drop_left]
  rw [d1, d2, List.take_left, if_neg (by simp only [List.length_append]; omega)]
  have d3 : (sumP b ++ rest).take 2 = sumP b := by rw [← l2, List.take_left]
  rw [d3, if_pos rfl, framed_len]
  congr 2
  omega
theorem frs_own (rest : List Nat) : ∀ (bs : List (List Nat)) (ahead : List Nat) (n : Nat), bs.length ≤ n → frR (ahead ++ ((bs.map framed).flatten ++ rest)) (ahead.length + (bs.map framed).flatten.length) = none →
    frs (ahead ++ ((bs.map framed).flatten ++ rest)) n ahead.length = (bs, ahead.length + (bs.map framed).flatten.length)
  | [], ahead, n, _, h => by
    have h' : frR (ahead ++ ((List.map framed []).flatten ++ rest)) ahead.length = none := h
    rw [frs_none h']
    rfl
  | b :: bs, ahead, n, hn, h => by
    obtain ⟨n, rfl⟩ : ∃ n', n = n' + 1 := ⟨n - 1, by simp at hn; omega⟩
    have e : ahead ++ (((b :: bs).map framed).flatten ++ rest) = ahead ++ (framed b ++ ((bs.map framed).flatten ++ rest)) := by simp
    have e2 : ahead ++ (framed b ++ ((bs.map framed).flatten ++ rest)) = (ahead ++ framed b) ++ ((bs.map framed).flatten ++ rest) := by simp
    have l : ahead.length + ((b :: bs).map framed).flatten.length = (ahead ++ framed b).length + (bs.map framed).flatten.length := by simp; omega
    rw [e, l] at h ⊢
    rw [frs_some (frR_own ahead _ b)]
    rw [e2] at h ⊢
    have ih := frs_own rest bs (ahead ++ framed b) n (by simp at hn; omega) h
    rw [List.length_append] at ih ⊢
    rw [ih]
theorem frR_end_none (os : List Nat) : frR os os.length = none := by
  unfold frR numI numR
  rw [if_neg (by omega), Int.toNat_natCast, List.getElem?_eq_none (by omega)]
end K80

end
section
set_option Elab.async false
set_option linter.all false
set_option maxRecDepth 100000
set_option autoImplicit false
namespace K80
open PySem DD
theorem hi_cut : ∀ (n k : Nat), k < (octs n).length → hi ((octs n).take k) = k := by
  intro n
  induction n using Nat.strongRecOn with
  | _ n ih =>
    intro k hk
    by_cases h : n < 128
    · rw [octs_lt h] at hk ⊢
      have : k = 0 := by simp at hk; omega
      subst this
      rfl
    · rw [octs_ge h] at hk ⊢
      cases k with
      | zero => rfl
      | succ k =>
        rw [List.take_succ_cons, hi_cons, if_pos (by omega), ih (n / 128) (by omega) k (by simp at hk; omega)]
theorem frR_cut (ahead b : List Nat) (k : Nat) (hk : k < (framed b).length) : frR (ahead ++ (framed b).take k) ahead.length = none := by
  by_cases h : k < (octs b.length).length
  · have e : (framed b).take k = (octs b.length).take k := by
      unfold framed
      rw [List.append_assoc, List.take_append_of_le_length (by omega)]
    rw [e]
    unfold frR numI numR
    rw [if_neg (by omega), Int.toNat_natCast, List.drop_left, hi_cut _ _ h, List.getElem?_eq_none (by rw [List.length_append, List.length_take]; omega)]
  · have e : (framed b).take k = octs b.length ++ (b ++ sumP b).take (k - (octs b.length).length) := by
      unfold framed
      rw [List.append_assoc, List.take_append, List.take_of_length_le (by omega)]
    have l : ((framed b).take k).length = k := by rw [List.length_take]; omega
    rw [framed_len] at hk
    have l2 : (ahead ++ (framed b).take k).length = ahead.length + k := by rw [List.length_append, l]
    rw [e] at l2 ⊢
    unfold frR
    rw [numI_own]
    show (if _ then _ else _) = _
    rw [if_pos (by omega)]
end K80

end
section
set_option Elab.async false
set_option linter.all false
set_option maxRecDepth 100000
set_option autoImplicit false
namespace K80
open PySem DD
/-! ### of plain kinds -/
def Good (d : D) : Prop := d.plain = true ∧ d.nodes ≤ 1000000
def GoodL (L : List D) : Prop := ∀ d ∈ L, Good d
theorem GoodL.app {L : List D} {d : D} (h : GoodL L) (hd : Good d) : GoodL (L ++ [d]) := fun x hx => by
  rcases List.mem_append.mp hx with q | q
  · exact h x q
  · rw [List.mem_singleton] at q; rw [q]; exact hd
theorem plains_nds : ∀ l : List Nat, plains (nds l) = true ∧ nodesL (nds l) = l.length
  | [] => ⟨rfl, rfl⟩
  | n :: l => by
    obtain ⟨h1, h2⟩ := plains_nds l
    have e : nds (n :: l) = .int (n : Nat) :: nds l := rfl
    rw [e]
    simp only [plains, nodesL, D.plain, D.nodes, h1, h2, List.length_cons]
    exact ⟨rfl, by omega⟩
theorem good_nds {l : List Nat} (h : l.length ≤ 100000) : Good (.tup (nds l)) := by
  obtain ⟨h1, h2⟩ := plains_nds l
  exact ⟨by simpa [D.plain] using h1, by simp only [D.nodes, h2]; omega⟩
theorem plains_bod : ∀ l : List (List Nat), plains (bodD .tup l) = true ∧ nodesL (bodD .tup l) = l.flatten.length + l.length
  | [] => ⟨rfl, rfl⟩
  | b :: l => by
    obtain ⟨h1, h2⟩ := plains_bod l
    obtain ⟨g1, g2⟩ := plains_nds b
    have e : bodD .tup (b :: l) = .tup (nds b) :: bodD .tup l := rfl
    rw [e]
    simp only [plains, nodesL, D.plain, D.nodes, h1, h2, g1, g2, List.length_cons, List.flatten_cons, List.length_append]
    exact ⟨rfl, by omega⟩
theorem frs_flat (os : List Nat) : ∀ (n p : Nat), p ≤ os.length → (frs os n p).1.flatten.length + (frs os n p).1.length + p ≤ os.length ∧ (frs os n p).2 ≤ os.length
  | 0, p, hp => by simpa [frs] using hp
  | n + 1, p, hp => by
    cases h : frR os p with
    | none => rw [frs_none h]; simpa using hp
    | some q =>
      obtain ⟨b, e⟩ := q
      obtain ⟨g1, g2, g3, _⟩ := frR_end h
      obtain ⟨i1, i2⟩ := frs_flat os n e g2
      rw [frs_some h]
      simp only [List.flatten_cons, List.length_append, List.length_cons]
      exact ⟨by omega, i2⟩
theorem good_bod {l : List (List Nat)} {p : Nat} (h : l.flatten.length + l.length ≤ 200000) : Good (.tup [.tup (bodD .tup l), .int (p : Nat)]) := by
  obtain ⟨h1, h2⟩ := plains_bod l
  refine ⟨by simp [D.plain, plains, h1], by simp only [D.nodes, nodesL, h2]; omega⟩
theorem good_frsD {os : List Nat} (hz : os.length < 60000) : Good (frsD os) := by
  obtain ⟨h1, h2⟩ := frs_flat os (os.length + 1) 0 (Nat.zero_le _)
  exact good_bod (by omega)
theorem twin_app (L : List D) (d : D) : twin L ++ [D.tup [d, d]] = twin (L ++ [d]) := by simp [twin]
theorem twin_len (L : List D) : (twin L).length = L.length := by simp [twin]
theorem ev_seq {s t : M Fl} {S : Sta} {Q : Fl → Sta → Prop} {P : Sta → Prop} (h : Ev s S fun fl S1 => fl = .nx ∧ P S1) (k : ∀ S1, P S1 → Ev t S1 Q) : Ev (seqS s t) S Q := by
  rw [ev_seqS]
  refine h.mono fun fl S1 ⟨e, p⟩ => ?_
  subst e
  exact k S1 p
/-- what the joined frames tell -/
theorem frsD_of (bs : List (List Nat)) (rest : List Nat) (h : frR ((bs.map framed).flatten ++ rest) (bs.map framed).flatten.length = none) (hz : bs.length ≤ (bs.map framed).flatten.length) :
    frsD ((bs.map framed).flatten ++ rest) = .tup [.tup (bodD .tup bs), .int ((bs.map framed).flatten.length : Nat)] := by
  have := frs_own rest bs [] (((bs.map framed).flatten ++ rest).length + 1) (by rw [List.length_append]; omega) (by simpa using h)
  unfold frsD
  simp only [List.nil_append, List.length_nil, Nat.zero_add] at this
  rw [this]
end K80

end
section
set_option Elab.async false
set_option linter.all false
set_option maxRecDepth 100000
set_option autoImplicit false
namespace K80
open PySem DD
def rowsD (bs : List (List Nat)) : List D := bs.map fun b => D.tup [.lst (nds b), .lst (nds (framed b))]
def keepS : Slot → Slot
  | .val d => .val d
  | _ => .un
/-- [.. for body, row in rows] -/
theorem ev_rows {a0 a1 a2 a3 a4 x5 x6 : Slot} {tl : List Slot} {st : DSt} {S0 : Sta} {it : M (List D)} {te : M R} {Q : R → Sta → Prop} {bs : List (List Nat)} {g : List Nat → D}
    (hit : Ev it S0 fun l S1 => l = rowsD bs ∧ S1 = ⟨a0 :: a1 :: a2 :: a3 :: a4 :: x5 :: x6 :: tl, st⟩) (hz : bs.length < 1000)
    (hte : ∀ b ∈ bs, Ev te ⟨a0 :: a1 :: a2 :: a3 :: a4 :: .val (.lst (nds b)) :: .val (.lst (nds (framed b))) :: tl, st⟩ fun v S' => v.d = g b ∧ S' = ⟨a0 :: a1 :: a2 :: a3 :: a4 :: .val (.lst (nds b)) :: .val (.lst (nds (framed b))) :: tl, st⟩)
    (h : Q (.own (.lst (bs.map g))) ⟨a0 :: a1 :: a2 :: a3 :: a4 :: keepS x5 :: keepS x6 :: tl, st⟩) : Ev (compM [5, 6] it (tgA 2 (tgCons (tgN 5) (tgCons (tgN 6) tgNil))) (mp true) te) S0 Q := by
  refine ev_compM (hit.mono fun l S1 ⟨e1, e2⟩ => ?_)
  subst e1 e2
  have hs := sizeE
  refine ⟨fun r acc S' => ∃ done rest, done ++ rest = bs ∧ r = rowsD rest ∧ acc = done.map g ∧ S' = ⟨a0 :: a1 :: a2 :: a3 :: a4 :: .un :: .un :: tl, st⟩, ⟨[], bs, rfl, rfl, rfl, by simp [wipeL]⟩, ?_, ?_⟩
  · rintro d r acc S' ⟨done, rest, hd, hr, rfl, rfl⟩
    cases rest with
    | nil => cases hr
    | cons b rest =>
      cases hr
      have hm : b ∈ bs := by rw [← hd]; simp
      have hlen : done.length + (rest.length + 1) = bs.length := by rw [← hd]; simp
      have ht := hte b hm
      walk_at "dx"
      refine ⟨by omega, by omega, ht.mono fun v S2 ⟨e4, e5⟩ => ?_⟩
      subst e5
      refine ⟨by rw [List.length_map]; omega, done ++ [b], rest, by rw [← hd]; simp, rfl, by simp [e4], by simp [wipeL]⟩
  · rintro acc S' ⟨done, rest, hd, hr, rfl, rfl⟩
    have e : rest = [] := by
      cases rest with
      | nil => rfl
      | cons b rest => cases hr
    subst e
    rw [List.append_nil] at hd
    subst hd
    have eb : backL (a0 :: a1 :: a2 :: a3 :: a4 :: x5 :: x6 :: tl) (a0 :: a1 :: a2 :: a3 :: a4 :: .un :: .un :: tl) [5, 6] = a0 :: a1 :: a2 :: a3 :: a4 :: keepS x5 :: keepS x6 :: tl := by
      cases x5 <;> cases x6 <;> rfl
    show Q _ ⟨backL _ _ [5, 6], st⟩
    rw [eb]
    exact h
end K80

end
section
set_option Elab.async false
set_option linter.all false
set_option maxRecDepth 100000
set_option autoImplicit false
namespace K80
open PySem DD
theorem rowsD_len (bs : List (List Nat)) : (rowsD bs).length = bs.length := by simp [rowsD]
theorem rowsD_app (bs : List (List Nat)) (b : List Nat) : rowsD bs ++ [D.tup [.lst (nds b), .lst (nds (framed b))]] = rowsD (bs ++ [b]) := by simp [rowsD]
theorem rowsD_cut (bs : List (List Nat)) (a : Nat) (h : a ≤ bs.length) : cutL (rowsD bs) none (some (a : Int)) = rowsD (bs.take a) := by
  unfold cutL
  rw [rowsD_len, HT.sIx_nat, HT.sIx_none]
  have e1 : min a bs.length = a := by omega
  rw [e1, List.drop_zero, Nat.sub_zero]
  unfold rowsD
  rw [← List.map_take]
theorem rowsD_at (bs : List (List Nat)) (a : Nat) (h : a < bs.length) : L2.atI (rowsD bs) (a : Int) = some (D.tup [.lst (nds bs[a]), .lst (nds (framed bs[a]))]) := by
  have e : L2.ixN (rowsD bs).length (a : Int) = some a := by
    unfold L2.ixN
    rw [rowsD_len]
    simp only [Int.toNat_natCast]
    rw [if_pos (by omega)]
    try rw [if_pos (by omega)]
    try simp
  unfold L2.atI
  rw [e]
  show (rowsD bs)[a]? = _
  unfold rowsD
  rw [List.getElem?_map, List.getElem?_eq_getElem h]
  rfl
theorem bod_framed (bs : List (List Nat)) : (bs.map fun b => D.lst (nds (framed b))) = bodD .lst (bs.map framed) := by
  unfold bodD
  rw [List.map_map]
  rfl
theorem bod_tup (bs : List (List Nat)) : (bs.map fun b => D.tup (nds b)) = bodD .tup bs := rfl
theorem flat_len : ∀ (bs : List (List Nat)), (∀ b ∈ bs, b.length ≤ 300) → (bs.map framed).flatten.length ≤ 305 * bs.length ∧ bs.length ≤ (bs.map framed).flatten.length
  | [], _ => ⟨Nat.zero_le _, Nat.zero_le _⟩
  | b :: bs, h => by
    obtain ⟨h1, h2⟩ := flat_len bs fun x hx => h x (List.mem_cons_of_mem _ hx)
    have hb := h b List.mem_cons_self
    have h3 := octs3 (n := b.length) (by omega)
    rw [List.map_cons, List.flatten_cons, List.length_append, framed_len, List.length_cons]
    omega
theorem flat_mem {bs : List (List Nat)} (h : ∀ b ∈ bs, ∀ o ∈ b, o < 256) : ∀ o ∈ (bs.map framed).flatten, o < 256 := fun o ho => by
  obtain ⟨r, hr, hor⟩ := List.mem_flatten.mp ho
  obtain ⟨b, hb, rfl⟩ := List.mem_map.mp hr
  exact framed_mem (h b hb) o hor
theorem flat_next (bs : List (List Nat)) (a : Nat) (h : a < bs.length) : ((bs.take a).map framed).flatten ++ framed bs[a] = ((bs.take (a + 1)).map framed).flatten := by
  rw [List.take_succ_eq_append_getElem h, List.map_append, List.flatten_append]
  simp
theorem frs_all (bs : List (List Nat)) (h : bs.length ≤ (bs.map framed).flatten.length) : frsD (bs.map framed).flatten = .tup [.tup (bodD .tup bs), .int ((bs.map framed).flatten.length : Nat)] := by
  have := frsD_of bs [] (by rw [List.append_nil]; exact frR_end_none _) h
  rwa [List.append_nil] at this
theorem good_flat {bs : List (List Nat)} {p : Nat} (h : ∀ b ∈ bs, b.length ≤ 300) (hz : bs.length ≤ 7) : Good (.tup [.tup (bodD .tup bs), .int (p : Nat)]) := by
  refine good_bod ?_
  have : bs.flatten.length ≤ (bs.map framed).flatten.length := by
    clear h hz
    induction bs with
    | nil => exact Nat.le_refl _
    | cons b bs ih =>
      rw [List.map_cons, List.flatten_cons, List.flatten_cons, List.length_append, List.length_append, framed_len]
      omega
  have := flat_len bs h
  omega

noncomputable def b_turn (G : Str → Addr) : M Fl := (seqS (setS 8 (callM 2 (fn__law_any G) (aCons (rd 1) (aCons (lenV 3) (mp [])))))
  (seqS (setS 9 (callM 1 (fn__law_joined G) (aCons (compM [5, 6] (anyI (slM slD (rd 3) (mp none) (oSome (rd 8)))) (tgA 2 (tgCons (tgN 5) (tgCons (tgN 6) tgNil))) (mp true) (rd 6)) (mp []))))
  (seqS (setS 10 (bin ixD (ixV 3 (rd 8)) (mp (.val (.int 1)))))
  (seqS (setS 11 (bin addD (rd 9) (slM slD (rd 10) (mp none) (oSome (callM 2 (fn__law_any G) (aCons (rd 1) (aCons (lenV 10) (mp []))))))))
  (seqS (exprS (mutM 2 (aCons (mkT (aCons (callM 1 (fn_frames G) (kwM 0 1 [0] (mp []) (aCons (lsM tupleD (aCons (rd 11) (mp []))) (mp [])))) (aCons (mkT (aCons (lsM tupleD (aCons (compM [5, 6] (anyI (slM slD (rd 3) (mp none) (oSome (rd 8)))) (tgA 2 (tgCons (tgN 5) (tgCons (tgN 6) tgNil))) (mp true) (lsM tupleD (aCons (rd 5) (mp [])))) (mp []))) (aCons (lenV 9) (mp [])))) (mp [])))) (mp [])) appendF))
  (seqS (exprS (mutM 2 (aCons (mkT (aCons (callM 1 (fn_frames G) (aCons (lsM tupleD (aCons (bin addD (rd 9) (rd 10)) (mp []))) (mp []))) (aCons (mkT (aCons (lsM tupleD (aCons (compM [5, 6] (anyI (slM slD (rd 3) (mp none) (oSome (bin addD (rd 8) (mp (.val (.int 1))))))) (tgA 2 (tgCons (tgN 5) (tgCons (tgN 6) tgNil))) (mp true) (lsM tupleD (aCons (rd 5) (mp [])))) (mp []))) (aCons (lsM lenD (aCons (bin addD (rd 9) (rd 10)) (mp []))) (mp [])))) (mp [])))) (mp [])) appendF))
  (seqS (setS 12 (callM 2 (fn__law_bent G) (aCons (rd 1) (aCons (rd 7) (mp [])))))
  (seqS (exprS (mutM 2 (aCons (mkT (aCons (callM 1 (fn_frames G) (aCons (lsM tupleD (aCons (rd 12) (mp []))) (mp []))) (aCons (callM 1 (fn__law_due G) (aCons (rd 12) (mp []))) (mp [])))) (mp [])) appendF))
  (seqS (setS 13 (callM 2 (fn__law_of G) (aCons (rd 1) (aCons (mkL (aCons (mkL (aCons (mp (.val (.int 0))) (aCons (mp (.val (.int 0))) (aCons (mp (.val (.int 1))) (mp []))))) (aCons (mkL (aCons (mp (.val (.int 1))) (aCons (mp (.val (.int 0))) (aCons (mp (.val (.int 1))) (aCons (mp (.val (.int 0))) (mp [])))))) (aCons (mkL (aCons (mp (.val (.int 0))) (aCons (mp (.val (.int 1))) (aCons (mp (.val (.int 0))) (mp []))))) (aCons (mkL (aCons (mp (.val (.int 128))) (aCons (mp (.val (.int 0))) (aCons (mp (.val (.int 0))) (aCons (mp (.val (.int 0))) (mp [])))))) (aCons (mkL (aCons (mp (.val (.int 1))) (aCons (mp (.val (.int 5))) (aCons (mp (.val (.int 0))) (aCons (mp (.val (.int 5))) (mp [])))))) (aCons (mkL (aCons (mp (.val (.int 255))) (mp []))) (aCons (mkL (aCons (mp (.val (.int 3))) (aCons (mp (.val (.int 1))) (aCons (mp (.val (.int 1))) (aCons (mp (.val (.int 1))) (aCons (mp (.val (.int 6))) (mp []))))))) (aCons (mkL (aCons (mp (.val (.int 2))) (aCons (mp (.val (.int 1))) (aCons (mp (.val (.int 1))) (aCons (mp (.val (.int 3))) (aCons (mp (.val (.int 1))) (mp []))))))) (mp [])))))))))) (mp [])))))
  (seqS (setS 14 (bin addD (bin addD (bin addD (rd 9) (rd 13)) (rd 10)) (compM [17] (rangeI1 (aCons (callM 2 (fn__law_any G) (aCons (rd 1) (aCons (mp (.val (.int 5))) (mp [])))) (mp []))) (tgN 17) (mp true) (callM 1 (fn__law_octet G) (aCons (rd 1) (mp []))))))
  (exprS (mutM 2 (aCons (mkT (aCons (callM 1 (fn_frames G) (aCons (lsM tupleD (aCons (rd 14) (mp []))) (mp []))) (aCons (callM 1 (fn__law_due G) (aCons (rd 14) (mp []))) (mp [])))) (mp [])) appendF))))))))))))

theorem turn_ev (G : Str → Addr) (ns : List Int) (L : List D) (bs : List (List Nat)) (os : List Nat) (st : DSt) (x4 x5 x6 x8 x9 x10 x11 x12 x13 x14 x15 x16 x17 : Slot) (hL : GoodL L) (hl : L.length ≤ 100) (hb0 : 0 < bs.length) (hb7 : bs.length ≤ 7)
    (hb : ∀ b ∈ bs, b.length ≤ 300) (hbm : ∀ b ∈ bs, ∀ o ∈ b, o < 256) (hos : os.length ≤ 3000) (hom : ∀ o ∈ os, o < 256) (hD : DS st) :
    Ev (b_turn G) ⟨[.val (.scr ns), .val .deal, .own (.lst (twin L)), .val (.lst (rowsD bs)), x4, x5, x6, .val (.lst (nds os)), x8, x9, x10, x11, x12, x13, x14, x15, x16, x17], st⟩ fun fl S => fl = .nx ∧ ∃ (L' : List D) (st' : DSt) (y4 y5 y6 y8 y9 y10 y11 y12 y13 y14 y15 y16 y17 : Slot), GoodL L' ∧ L'.length = L.length + 4 ∧ DS st' ∧ S = ⟨[.val (.scr ns), .val .deal, .own (.lst (twin L')), .val (.lst (rowsD bs)), y4, y5, y6, .val (.lst (nds os)), y8, y9, y10, y11, y12, y13, y14, y15, y16, y17], st'⟩ := by
  unfold b_turn
  have hs := sizeE
  -- many
  refine ev_seq (P := fun S => ∃ (a : Nat) (st1 : DSt), a < bs.length ∧ DS st1 ∧ S = ⟨[.val (.scr ns), .val .deal, .own (.lst (twin L)), .val (.lst (rowsD bs)), x4, x5, x6, .val (.lst (nds os)), .val (.int (a : Nat)), x9, x10, x11, x12, x13, x14, x15, x16, x17], st1⟩) ?_ ?_
  · walk_at "dx"
    rw [rowsD_len]
    refine fres_mono (any_ev G (bs.length : Nat) st (by omega) (Int.lt_trans (by omega : ((bs.length : Nat) : Int) < 3000) (by decide +kernel)) hD) ?_
    rintro r st1 ⟨a, rfl, ha, k1, D1⟩
    exact ⟨k1, a, st1, by omega, D1, rfl⟩
  rintro S ⟨a, st1, ha, D1, rfl⟩
  have hbt : ∀ k, ∀ b ∈ bs.take k, b.length ≤ 300 := fun k b h => hb b (List.mem_of_mem_take h)
  have hbtm : ∀ k, ∀ b ∈ bs.take k, ∀ o ∈ b, o < 256 := fun k b h => hbm b (List.mem_of_mem_take h)
  have htl : ∀ k, (bs.take k).length ≤ 7 := fun k => by rw [List.length_take]; omega
  have fl := fun k => flat_len (bs.take k) (hbt k)
  have fm := fun k => flat_mem (hbtm k)
  have cutE : ∀ k, k ≤ bs.length → cutL (rowsD bs) none (some (k : Int)) = rowsD (bs.take k) := rowsD_cut bs
  -- ahead
  refine ev_seq (P := fun S => ∃ (x5 x6 : Slot), S = ⟨[.val (.scr ns), .val .deal, .own (.lst (twin L)), .val (.lst (rowsD bs)), x4, x5, x6, .val (.lst (nds os)), .val (.int (a : Nat)), .own (.lst (nds ((bs.take a).map framed).flatten)), x10, x11, x12, x13, x14, x15, x16, x17], st1⟩) ?_ ?_
  · walk_at "dx"
    refine ev_rows (bs := bs.take a) (g := fun b => .lst (nds (framed b))) (by walk_at "dx"; exact ⟨cutE a (by omega), rfl⟩) (by have := htl a; omega) ?_ ?_
    · intro b hb
      walk_at "dx"
    · have f1 := (fl a).1
      have f2 := htl a
      walk_at "dx"
      rw [bod_framed, law_joined_eq G ((bs.take a).map framed) st1 (by omega)]
      walk_at "dx"
      exact ⟨_, _, rfl⟩
  rintro S ⟨x5, x6, rfl⟩
  -- last
  refine ev_seq (P := fun S => S = ⟨[.val (.scr ns), .val .deal, .own (.lst (twin L)), .val (.lst (rowsD bs)), x4, x5, x6, .val (.lst (nds os)), .val (.int (a : Nat)), .own (.lst (nds ((bs.take a).map framed).flatten)), .val (.lst (nds (framed bs[a]))), x11, x12, x13, x14, x15, x16, x17], st1⟩) ?_ ?_
  · walk_at "dx"
    rw [rowsD_at bs a ha]
    walk_at "dx"
    have t1 : ∀ x y : D, L2.atI [x, y] 1 = some y := fun _ _ => rfl
    simp only [t1, opt_some]
  rintro S rfl
  have hba := hb bs[a] (List.getElem_mem _)
  have hbam := hbm bs[a] (List.getElem_mem _)
  have hfl : (framed bs[a]).length ≤ 305 ∧ 3 ≤ (framed bs[a]).length := by
    have := octs3 (n := bs[a].length) (by omega)
    have := octs_pos bs[a].length
    rw [framed_len]; omega
  have hfm := framed_mem hbam
  have hnext := flat_next bs a ha
  have hap : frR (((bs.take a).map framed).flatten ++ []) (((bs.take a).map framed).flatten).length = none := by rw [List.append_nil]; exact frR_end_none _
  have hA1 := fl a
  have hA2 := fm a
  have hA3 := htl a
  have hN1 := fl (a + 1)
  have hN3 := htl (a + 1)
  have hcut := frR_cut (((bs.take a).map framed).flatten) bs[a]
  have hfr := frsD_of (bs.take a)
  have hgA := fun p => good_flat (bs := bs.take a) (p := p) (hbt a) hA3
  have hgN := fun p => good_flat (bs := bs.take (a + 1)) (p := p) (hbt (a + 1)) hN3
  have hall := frs_all (bs.take (a + 1)) hN1.2
  have cA := cutE a (by omega)
  have cN := cutE (a + 1) (by omega)
  rw [← hnext] at hall hN1
  have rA : ∀ (x5 x6 x7 x8 x9 x10 : Slot), True := fun _ _ _ _ _ _ => trivial
  have zA : (bs.take a).length < 1000 := by omega
  have zN : (bs.take (a + 1)).length < 1000 := by omega
  generalize hAe : ((bs.take a).map framed).flatten = A at *
  generalize hfe : framed bs[a] = fb at *
  -- cut
  refine ev_seq (P := fun S => ∃ (k : Nat) (st2 : DSt), k < fb.length ∧ DS st2 ∧ S = ⟨[.val (.scr ns), .val .deal, .own (.lst (twin L)), .val (.lst (rowsD bs)), x4, x5, x6, .val (.lst (nds os)), .val (.int (a : Nat)), .val (.lst (nds A)), .val (.lst (nds fb)), .own (.lst (nds (A ++ fb.take k))), x12, x13, x14, x15, x16, x17], st2⟩) ?_ ?_
  · walk_at "dx"
    simp only [nds_len]
    refine fres_mono (any_ev G (fb.length : Nat) st1 (by omega) (Int.lt_trans (by omega : ((fb.length : Nat) : Int) < 3000) (by decide +kernel)) D1) ?_
    rintro r st2 ⟨k, rfl, hk, k2, D2⟩
    refine ⟨k2, ?_⟩
    walk_at "dx"
    have lt : (fb.take k).length ≤ 305 := by rw [List.length_take]; omega
    rw [nds_cut_l _ _ (by omega), ← nds_app]
    simp only [nds_len]
    exact ⟨by omega, k, st2, by omega, D2, rfl⟩
  rintro S ⟨k, st2, hk, D2, rfl⟩
  have hkl : (fb.take k).length ≤ 305 := by rw [List.length_take]; omega
  have hkm : ∀ o ∈ A ++ fb.take k, o < 256 := mem_app256 hA2 fun o ho => hfm o (List.mem_of_mem_take ho)
  have hkz : (A ++ fb.take k).length ≤ 3000 := by rw [List.length_append]; omega
  have ek : ∀ d : D, permK D.non 0 1 [0] [] [d] = [d] := fun _ => rfl
  -- the cut frames
  refine ev_seq (P := fun S => ∃ (x5 x6 : Slot), S = ⟨[.val (.scr ns), .val .deal, .own (.lst (twin (L ++ [frsD (A ++ fb.take k)]))), .val (.lst (rowsD bs)), x4, x5, x6, .val (.lst (nds os)), .val (.int (a : Nat)), .val (.lst (nds A)), .val (.lst (nds fb)), .val (.lst (nds (A ++ fb.take k))), x12, x13, x14, x15, x16, x17], st2⟩) ?_ ?_
  · walk_at "dx"
    rw [ek, frames_eq G _ st2 (by omega) hkm]
    walk_at "dx"
    refine ev_rows (bs := bs.take a) (g := fun b => .tup (nds b)) (by walk_at "dx"; exact ⟨cA, rfl⟩) zA ?_ ?_
    · intro b hb
      walk_at "dx"
    · rw [bod_tup]
      walk_at "dx"
      rw [nds_len]
      refine ⟨by decide, by decide, by rw [twin_len]; omega, keepS x5, keepS x6, ?_⟩
      rw [← hfr _ (hcut k hk) hA1.2, twin_app]
  rintro S ⟨x5, x6, rfl⟩
  have gL1 := hL.app (good_frsD (os := A ++ fb.take k) (by omega))
  have lL1 : (L ++ [frsD (A ++ fb.take k)]).length = L.length + 1 := by rw [List.length_append]; rfl
  generalize (L ++ [frsD (A ++ fb.take k)]) = L1 at gL1 lL1 ⊢
  have hnm : ∀ o ∈ A ++ fb, o < 256 := mem_app256 hA2 hfm
  have hnz : (A ++ fb).length ≤ 3000 := by rw [List.length_append]; omega
  have hnz2 : A.length + fb.length ≤ 3000 := by omega
  -- the whole frames
  refine ev_seq (P := fun S => ∃ (x5 x6 : Slot), S = ⟨[.val (.scr ns), .val .deal, .own (.lst (twin (L1 ++ [frsD (A ++ fb)]))), .val (.lst (rowsD bs)), x4, x5, x6, .val (.lst (nds os)), .val (.int (a : Nat)), .val (.lst (nds A)), .val (.lst (nds fb)), .val (.lst (nds (A ++ fb.take k))), x12, x13, x14, x15, x16, x17], st2⟩) ?_ ?_
  · walk_at "dx"
    rw [← nds_app, nds_len, nds_len]
    refine ⟨by omega, ?_⟩
    rw [frames_eq G _ st2 (by omega) hnm]
    walk_at "dx"
    refine ev_rows (bs := bs.take (a + 1)) (g := fun b => .tup (nds b)) (by walk_at "dx"; exact ⟨cN, rfl⟩) zN ?_ ?_
    · intro b hb
      walk_at "dx"
    · rw [bod_tup]
      walk_at "dx"
      rw [nds_len, nds_len]
      rw [List.length_append] at hall
      refine ⟨by omega, by decide, by decide, by rw [twin_len]; omega, keepS x5, keepS x6, ?_⟩
      rw [← hall, twin_app]
  rintro S ⟨x5, x6, rfl⟩
  have gL2 := gL1.app (good_frsD (os := A ++ fb) (by omega))
  have lL2 : (L1 ++ [frsD (A ++ fb)]).length = L.length + 2 := by rw [List.length_append, lL1]; rfl
  generalize (L1 ++ [frsD (A ++ fb)]) = L2 at gL2 lL2 ⊢
  -- bent
  refine ev_seq (P := fun S => ∃ (be : List Nat) (x12 : Slot) (st3 : DSt), (x12 = .val (.lst (nds be)) ∨ x12 = .own (.lst (nds be))) ∧ be.length ≤ 3001 ∧ (∀ o ∈ be, o < 256) ∧ DS st3 ∧ S = ⟨[.val (.scr ns), .val .deal, .own (.lst (twin L2)), .val (.lst (rowsD bs)), x4, x5, x6, .val (.lst (nds os)), .val (.int (a : Nat)), .val (.lst (nds A)), .val (.lst (nds fb)), .val (.lst (nds (A ++ fb.take k))), x12, x13, x14, x15, x16, x17], st3⟩) ?_ ?_
  · walk_at "dx"
    refine fres_mono (bent_ev G os st2 (by omega) hom D2) ?_
    rintro r st3 ⟨be, hr, hl1, hm1, k3, D3⟩
    refine ⟨k3, ?_⟩
    rcases hr with rfl | rfl
    · exact ⟨be, _, st3, .inl rfl, by omega, hm1, D3, rfl⟩
    · exact ⟨be, _, st3, .inr rfl, by omega, hm1, D3, rfl⟩
  rintro S ⟨be, x12, st3, hx12, hbel, hbem, D3, rfl⟩
  refine ev_seq (P := fun S => ∃ (x12 : Slot), S = ⟨[.val (.scr ns), .val .deal, .own (.lst (twin (L2 ++ [frsD be]))), .val (.lst (rowsD bs)), x4, x5, x6, .val (.lst (nds os)), .val (.int (a : Nat)), .val (.lst (nds A)), .val (.lst (nds fb)), .val (.lst (nds (A ++ fb.take k))), x12, x13, x14, x15, x16, x17], st3⟩) ?_ ?_
  · rcases hx12 with rfl | rfl
    · walk_at "dx"
      rw [frames_eq G _ st3 (by omega) hbem]
      walk_at "dx"
      rw [law_due_eq G _ st3 (by omega) hbem]
      walk_at "dx"
      refine ⟨by decide, by rw [twin_len]; omega, .val (.lst (nds be)), ?_⟩
      rw [twin_app]
    · walk_at "dx"
      rw [frames_eq G _ st3 (by omega) hbem]
      walk_at "dx"
      rw [law_due_eq G _ st3 (by omega) hbem]
      walk_at "dx"
      refine ⟨by decide, by rw [twin_len]; omega, .val (.lst (nds be)), ?_⟩
      rw [twin_app]
  clear hx12
  rintro S ⟨x12, rfl⟩
  have gL3 := gL2.app (good_frsD (os := be) (by omega))
  have lL3 : (L2 ++ [frsD be]).length = L.length + 3 := by rw [List.length_append, lL2]; rfl
  generalize (L2 ++ [frsD be]) = L3 at gL3 lL3 ⊢
  -- wrong
  refine ev_seq (P := fun S => ∃ (wr : List Nat) (st4 : DSt), wr.length ≤ 5 ∧ (∀ o ∈ wr, o < 256) ∧ DS st4 ∧ S = ⟨[.val (.scr ns), .val .deal, .own (.lst (twin L3)), .val (.lst (rowsD bs)), x4, x5, x6, .val (.lst (nds os)), .val (.int (a : Nat)), .val (.lst (nds A)), .val (.lst (nds fb)), .val (.lst (nds (A ++ fb.take k))), x12, .val (.lst (nds wr)), x14, x15, x16, x17], st4⟩) ?_ ?_
  · walk_at "dx"
    refine ⟨by decide, by decide, by decide, by decide, by decide, by decide, by decide, by decide, by decide, ?_⟩
    refine fres_mono (of_ev G _ st3 (by simp) (show 8 ≤ sizeLine by decide) D3) ?_
    rintro r st4 ⟨d, rfl, hd, k4, D4⟩
    refine ⟨k4, ?_⟩
    obtain ⟨w, rfl, hw1, hw2⟩ : ∃ w : List Nat, d = .lst (nds w) ∧ w.length ≤ 5 ∧ (∀ o ∈ w, o < 256) := by
      simp only [List.mem_cons, List.not_mem_nil, or_false] at hd
      rcases hd with rfl | rfl | rfl | rfl | rfl | rfl | rfl | rfl
      · exact ⟨[0, 0, 1], rfl, by decide, by decide⟩
      · exact ⟨[1, 0, 1, 0], rfl, by decide, by decide⟩
      · exact ⟨[0, 1, 0], rfl, by decide, by decide⟩
      · exact ⟨[128, 0, 0, 0], rfl, by decide, by decide⟩
      · exact ⟨[1, 5, 0, 5], rfl, by decide, by decide⟩
      · exact ⟨[255], rfl, by decide, by decide⟩
      · exact ⟨[3, 1, 1, 1, 6], rfl, by decide, by decide⟩
      · exact ⟨[2, 1, 1, 3, 1], rfl, by decide, by decide⟩
    exact ⟨w, st4, hw1, hw2, D4, rfl⟩
  rintro S ⟨wr, st4, hw1, hw2, D4, rfl⟩
  -- mixed
  refine ev_seq (P := fun S => ∃ (mi : List Nat) (x17 : Slot) (st5 : DSt), mi.length ≤ 4000 ∧ (∀ o ∈ mi, o < 256) ∧ DS st5 ∧ S = ⟨[.val (.scr ns), .val .deal, .own (.lst (twin L3)), .val (.lst (rowsD bs)), x4, x5, x6, .val (.lst (nds os)), .val (.int (a : Nat)), .val (.lst (nds A)), .val (.lst (nds fb)), .val (.lst (nds (A ++ fb.take k))), x12, .val (.lst (nds wr)), .own (.lst (nds mi)), x15, x16, x17], st5⟩) ?_ ?_
  · walk_at "dx"
    rw [← nds_app, ← nds_app]
    simp only [nds_len, List.length_append]
    refine ⟨by omega, by omega, ?_⟩
    obtain ⟨r, st5, e1, v, rfl, hv, k5, D5⟩ := fres_ex (any_ev G 5 st4 (by decide) (by decide +kernel) D4)
    refine ev_drawn (S := ⟨[.val (.scr ns), .val .deal, .own (.lst (twin L3)), .val (.lst (rowsD bs)), x4, x5, x6, .val (.lst (nds os)), .val (.int (a : Nat)), .val (.lst (nds A)), .val (.lst (nds fb)), .val (.lst (nds (A ++ fb.take k))), x12, .val (.lst (nds wr)), x14, x15, x16, x17], st5⟩) (ds := rangeD 0 v) (P := fun d => ∃ o : Nat, d = .int (o : Nat) ∧ o < 256) (J := fun s => DS s) (show 17 < 18 by decide) D5 ?_ (by rw [rangeD_len]; omega) ?_ ?_
    · refine ev_rangeI1 (j := (v : Nat)) ?_
      walk_at "dx"
      rw [e1]
      walk_at "dx"
      have b1 : -(2 ^ 62) ≤ ((v : Nat) : Int) := by omega
      have b2 : ((v : Nat) : Int) < 2 ^ 62 := by omega
      exact ⟨k5, b1, b2⟩
    · rintro d hd s Ds
      walk_at "dx"
      refine fres_mono (octet_ev G s Ds) ?_
      rintro r st6 ⟨o, rfl, ho, k6, D6⟩
      walk_at "dx"
      exact ⟨k6, ⟨o, rfl, ho⟩, st6, D6, rfl⟩
    · rintro l s hl6 hP Ds
      obtain ⟨no, rfl, hno⟩ := list_of_nats hP
      have hnl : no.length ≤ 5 := by
        rw [nds_len, rangeD_len] at hl6
        omega
      simp only [backL]
      walk_at "dx"
      rw [← nds_app, nds_len, nds_len]
      refine ⟨by simp only [List.length_append]; omega, A ++ wr ++ fb ++ no, _, s, by simp only [List.length_append]; omega, ?_, Ds, rfl⟩
      exact mem_app256 (mem_app256 (mem_app256 hA2 hw2) hfm) hno
  rintro S ⟨mi, x17, st5, hm1, hm2, D5, rfl⟩
  walk_at "dx"
  rw [frames_eq G _ st5 (by omega) hm2]
  walk_at "dx"
  rw [law_due_eq G _ st5 (by omega) hm2]
  walk_at "dx"
  refine ⟨by decide, by rw [twin_len]; omega, L3 ++ [frsD mi], st5, x4, x5, x6, .val (.int (a : Nat)), .val (.lst (nds A)), .val (.lst (nds fb)), .val (.lst (nds (A ++ fb.take k))), x12, .val (.lst (nds wr)), .val (.lst (nds mi)), x15, x16, x17, gL3.app (good_frsD (by omega)), by rw [List.length_append, lL3]; rfl, D5, ?_⟩
  rw [twin_app]
end K80

end
section
set_option Elab.async false
set_option linter.all false
set_option maxRecDepth 100000
set_option autoImplicit false
namespace K80
open PySem DD
theorem rep_flat (o : Nat) : ∀ n : Nat, (List.replicate n [D.int (o : Nat)]).flatten = nds (List.replicate n o)
  | 0 => rfl
  | n + 1 => by
    rw [List.replicate_succ, List.flatten_cons, rep_flat o n, List.replicate_succ]
    rfl
theorem mulT_rep (n o : Nat) (h : 2 ≤ n) (h2 : n ≤ 1000000) : mulTD (.tup [.int (o : Nat)]) (.int (n : Nat)) = some (.val (.tup (nds (List.replicate n o)))) := by
  have e : mulTD (.tup [.int (o : Nat)]) (.int (n : Nat)) = if 0 < [D.int (o : Nat)].length ∧ 2 ≤ ((n : Nat) : Int) ∧ ((n : Nat) : Int) ≤ 1000000 ∧ [D.int (o : Nat)].length * ((n : Nat) : Int).toNat ≤ 1000000 then some (.val (.tup (List.replicate ((n : Nat) : Int).toNat [D.int (o : Nat)]).flatten)) else none := rfl
  rw [e, if_pos ⟨by simp, by omega, by omega, by rw [Int.toNat_natCast]; simp; omega⟩, Int.toNat_natCast, rep_flat]
theorem mulL_rep (n o : Nat) (h2 : n ≤ 1000000) : mulTD (.lst [.int (o : Nat)]) (.int (n : Nat)) = some (.own (.lst (nds (List.replicate n o)))) := by
  have hs := sizeE
  have e : mulTD (.lst [.int (o : Nat)]) (.int (n : Nat)) = if -(2 ^ 63) ≤ ((n : Nat) : Int) ∧ ((n : Nat) : Int) < 2 ^ 63 ∧ [D.int (o : Nat)].length * ((n : Nat) : Int).toNat ≤ sizeLine then some (.own (.lst (List.replicate ((n : Nat) : Int).toNat [D.int (o : Nat)]).flatten)) else none := rfl
  rw [e, if_pos ⟨by omega, by omega, by rw [Int.toNat_natCast, hs]; simp; omega⟩, Int.toNat_natCast, rep_flat]
theorem sum_rep (o : Nat) : ∀ (n k : Nat), 2 * sumW k (List.replicate n o) = o * (n * (n + 1 + 2 * k))
  | 0, k => by simp [sumW]
  | n + 1, k => by
    rw [List.replicate_succ]
    unfold sumW
    rw [Nat.mul_add, sum_rep o n (k + 1)]
    have e : (n + 1) * (n + 1 + 1 + 2 * k) = 2 * (k + 1) + n * (n + 1 + 2 * (k + 1)) := by
      rw [Nat.add_mul, Nat.one_mul]
      have : n + 1 + 1 + 2 * k = n + 1 + 2 * (k + 1) - 1 := by omega
      have e2 : n + 1 + 2 * (k + 1) = n + 1 + 1 + 2 * k + 1 := by omega
      rw [e2, Nat.mul_add n _ 1]
      omega
    have e3 : 2 * ((k + 1) * o) = o * (2 * (k + 1)) := by rw [← Nat.mul_assoc, Nat.mul_comm]
    rw [e3, e, ← Nat.mul_add]
theorem sum_rep0 (n o : Nat) : sumW 0 (List.replicate n o) = o * (n * (n + 1) / 2) := by
  have h := sum_rep o n 0
  have h2 : n * (n + 1) % 2 = 0 := by
    rcases Nat.mod_two_eq_zero_or_one n with z | z <;> simp [Nat.mul_mod, Nat.add_mod, z]
  generalize hm : n * (n + 1) / 2 = m
  have e : n * (n + 1 + 2 * 0) = 2 * m := by rw [Nat.mul_zero, Nat.add_zero]; omega
  rw [e, Nat.mul_left_comm] at h
  omega
theorem great_int (n o : Nat) : ((o : Int) * ((n : Int) * ((n : Int) + 1) / 2)) % 65521 = ((sm (List.replicate n o) : Nat) : Int) := by
  unfold sm
  rw [sum_rep0, Int.natCast_emod, Int.natCast_mul, Int.natCast_ediv, Int.natCast_mul, Int.natCast_add]
  rfl
theorem frR_zeros (a : List Nat) : frR (a ++ [0, 0]) a.length = none := by
  have h := numI_own a [0] 0
  have e0 : octs 0 = [0] := by unfold octs; rfl
  rw [e0] at h
  unfold frR
  have e : a ++ [0, 0] = a ++ ([0] ++ [0]) := rfl
  rw [e, h]
  show (if _ then _ else _) = _
  rw [if_pos (by simp; omega)]
noncomputable def b_great (G : Str → Addr) : M Fl := (ifS (tst (bin eqD (callM 2 (fn__law_any G) (aCons (rd 1) (aCons (mp (.val (.int 6))) (mp [])))) (mp (.val (.int 0))))) (seqS (parO 8 15 (callM 2 (fn__law_of G) (aCons (rd 1) (aCons (mkL (aCons (mp (.val (.int 16384))) (aCons (mp (.val (.int 16383))) (aCons (mp (.val (.int 20000))) (mp []))))) (mp [])))) (callM 1 (fn__law_octet G) (aCons (rd 1) (mp []))))
  (seqS (setS 16 (bin modD (lsM int1D (aCons (bin mulTD (rd 15) (bin fdivD (bin mulTD (rd 8) (bin addD (rd 8) (mp (.val (.int 1))))) (mp (.val (.int 2))))) (mp []))) (mp (.val (.int 65521)))))
  (seqS (setS 6 (bin addD (bin addD (callM 1 (fn__law_number_octets G) (aCons (rd 8) (mp []))) (bin mulTD (mkL (aCons (rd 15) (mp []))) (rd 8))) (mkL (aCons (bin modD (lsM int1D (aCons (rd 16) (mp []))) (mp (.val (.int 256)))) (aCons (bin fdivD (rd 16) (mp (.val (.int 256)))) (mp []))))))
  (seqS (exprS (mutM 2 (aCons (mkT (aCons (callM 1 (fn_frame G) (aCons (bin mulTD (mkT (aCons (rd 15) (mp []))) (rd 8)) (mp []))) (aCons (lsM tupleD (aCons (rd 6) (mp []))) (mp [])))) (mp [])) appendF))
  (exprS (mutM 2 (aCons (mkT (aCons (callM 1 (fn_frames G) (aCons (lsM tupleD (aCons (bin addD (rd 6) (mkL (aCons (mp (.val (.int 0))) (aCons (mp (.val (.int 0))) (mp []))))) (mp []))) (mp []))) (aCons (mkT (aCons (mkT (aCons (bin mulTD (mkT (aCons (rd 15) (mp []))) (rd 8)) (mp []))) (aCons (lenV 6) (mp [])))) (mp [])))) (mp [])) appendF)))))) (mp .nx))
theorem great_ev (G : Str → Addr) (ns : List Int) (L : List D) (st : DSt) (x3 x4 x5 x6 x7 x8 x9 x10 x11 x12 x13 x14 x15 x16 x17 : Slot) (hL : GoodL L) (hl : L.length ≤ 100) (hD : DS st) :
    Ev (b_great G) ⟨[.val (.scr ns), .val .deal, .own (.lst (twin L)), x3, x4, x5, x6, x7, x8, x9, x10, x11, x12, x13, x14, x15, x16, x17], st⟩ fun fl S => fl = .nx ∧ ∃ (L' : List D) (st' : DSt) (y3 y4 y5 y6 y7 y8 y9 y10 y11 y12 y13 y14 y15 y16 y17 : Slot), GoodL L' ∧ L'.length ≤ L.length + 2 ∧ DS st' ∧ S = ⟨[.val (.scr ns), .val .deal, .own (.lst (twin L')), y3, y4, y5, y6, y7, y8, y9, y10, y11, y12, y13, y14, y15, y16, y17], st'⟩ := by
  unfold b_great
  have hs := sizeE
  rw [ev_ifS]
  refine Ev.mono (Q := fun (_ : Bool) S1 => ∃ st1, DS st1 ∧ S1 = ⟨[.val (.scr ns), .val .deal, .own (.lst (twin L)), x3, x4, x5, x6, x7, x8, x9, x10, x11, x12, x13, x14, x15, x16, x17], st1⟩) ?_ ?_
  · walk_at "dx"
    refine fres_mono (any_ev G 6 st (by decide) (by decide +kernel) hD) ?_
    rintro r st1 ⟨v, rfl, hv, k1, D1⟩
    refine ⟨k1, ?_⟩
    walk_at "dx"
    exact ⟨st1, D1, rfl⟩
  rintro b S ⟨st1, D1, rfl⟩
  rcases Bool.eq_false_or_eq_true b with h0 | h0
  all_goals rw [h0]
  rotate_left
  · rw [if_neg (by decide), ev_mp]
    exact ⟨rfl, L, st1, x3, x4, x5, x6, x7, x8, x9, x10, x11, x12, x13, x14, x15, x16, x17, hL, by omega, D1, rfl⟩
  rw [if_pos rfl]
  refine ev_seq (P := fun S => ∃ (n o : Nat) (st2 : DSt), (16383 ≤ n ∧ n ≤ 20000) ∧ o < 256 ∧ DS st2 ∧ S = ⟨[.val (.scr ns), .val .deal, .own (.lst (twin L)), x3, x4, x5, x6, x7, .val (.int (n : Nat)), x9, x10, x11, x12, x13, x14, .val (.int (o : Nat)), x16, x17], st2⟩) ?_ ?_
  · walk_at "dx"
    refine ⟨by decide, ?_⟩
    refine fres_mono (of_ev G _ st1 (by simp) (show 3 ≤ sizeLine by decide) D1) ?_
    rintro r st2 ⟨d, rfl, hd, k2, D2⟩
    refine ⟨k2, ?_⟩
    refine fres_mono (octet_ev G st2 D2) ?_
    rintro r st3 ⟨o, rfl, ho, k3, D3⟩
    refine ⟨k3, ?_⟩
    obtain ⟨n, rfl, hn⟩ : ∃ n : Nat, d = .int (n : Nat) ∧ 16383 ≤ n ∧ n ≤ 20000 := by
      simp only [List.mem_cons, List.not_mem_nil, or_false] at hd
      rcases hd with rfl | rfl | rfl
      · exact ⟨16384, rfl, by decide⟩
      · exact ⟨16383, rfl, by decide⟩
      · exact ⟨20000, rfl, by decide⟩
    exact ⟨n, o, st3, hn, ho, D3, rfl⟩
  rintro S ⟨n, o, st2, hn, ho, D2, rfl⟩
  have hrl : (List.replicate n o).length = n := List.length_replicate
  have hrm : ∀ q ∈ List.replicate n o, q < 256 := fun q hq => by rw [List.mem_replicate] at hq; omega
  have hg := great_int n o
  have mT := mulT_rep n o (by omega) (by omega)
  have mL := mulL_rep n o (by omega)
  have hsm := sm_lt (List.replicate n o)
  have hfr : framed (List.replicate n o) = octs n ++ List.replicate n o ++ sumP (List.replicate n o) := by unfold framed; rw [hrl]
  generalize hb : List.replicate n o = b at *
  have ol := octs3 (n := n) (by omega)
  refine ev_seq (P := fun S => S = ⟨[.val (.scr ns), .val .deal, .own (.lst (twin L)), x3, x4, x5, x6, x7, .val (.int (n : Nat)), x9, x10, x11, x12, x13, x14, .val (.int (o : Nat)), .val (.int (sm b : Nat)), x17], st2⟩) ?_ ?_
  · walk_at "dx"
    have l1 := log_small (n := n) (by omega)
    have l2 := log_small (n := n + 1) (by omega)
    have l3 := log_small (n := o) (by omega)
    have l4 := log_small (n := n * (n + 1) / 2) (by
      have : n * (n + 1) ≤ 20000 * 20001 := Nat.mul_le_mul (by omega) (by omega)
      omega)
    have c1 : ((n : Int) + 1) = ((n + 1 : Nat) : Int) := by omega
    have c2 : (n : Int) * ((n : Int) + 1) / 2 = ((n * (n + 1) / 2 : Nat) : Int) := by
      rw [Int.natCast_ediv, Int.natCast_mul, Int.natCast_add]; rfl
    rw [hg]
    rw [c2, c1]
    exact ⟨by omega, by decide, by omega, by decide, rfl⟩
  rintro S rfl
  have hsp : [D.int (((sm b : Nat) : Int) % 256), D.int (((sm b : Nat) : Int) / 256)] = nds (sumP b) := by
    unfold sumP nds
    simp only [List.map_cons, List.map_nil, Int.natCast_emod, Int.natCast_ediv]
    rfl
  have fl : (framed b).length = (octs b.length).length + b.length + 2 := framed_len b
  rw [hrl] at fl
  refine ev_seq (P := fun S => S = ⟨[.val (.scr ns), .val .deal, .own (.lst (twin L)), x3, x4, x5, .own (.lst (nds (framed b))), x7, .val (.int (n : Nat)), x9, x10, x11, x12, x13, x14, .val (.int (o : Nat)), .val (.int (sm b : Nat)), x17], st2⟩) ?_ ?_
  · walk_at "dx"
    rw [law_number_octets_eq G n st2 (by omega)]
    walk_at "dx"
    rw [mL]
    walk_at "dx"
    rw [hsp, ← nds_app, ← nds_app, ← hfr]
    simp only [nds_len]
    exact ⟨by first | decide | omega, by first | decide | omega, by first | decide | omega, by first | decide | omega, by first | decide | omega, by omega, trivial⟩
  rintro S rfl
  have gF : Good (.tup (nds (framed b))) := good_nds (by omega)
  have hfm := framed_mem hrm
  refine ev_seq (P := fun S => S = ⟨[.val (.scr ns), .val .deal, .own (.lst (twin (L ++ [.tup (nds (framed b))]))), x3, x4, x5, .val (.lst (nds (framed b))), x7, .val (.int (n : Nat)), x9, x10, x11, x12, x13, x14, .val (.int (o : Nat)), .val (.int (sm b : Nat)), x17], st2⟩) ?_ ?_
  · walk_at "dx"
    rw [mT]
    walk_at "dx"
    rw [frame_eq G b st2 (by omega) hrm]
    walk_at "dx"
    refine ⟨by decide, by decide, by rw [twin_len]; omega, ?_⟩
    rw [twin_app]
  rintro S rfl
  have hfz : frsD (framed b ++ [0, 0]) = .tup [.tup (bodD .tup [b]), .int ((framed b).length : Nat)] := by
    have := frsD_of [b] [0, 0]
    simp only [List.map_cons, List.map_nil, List.flatten_cons, List.flatten_nil, List.append_nil, List.length_cons, List.length_nil] at this
    exact this (frR_zeros _) (by omega)
  have gG : Good (frsD (framed b ++ [0, 0])) := good_frsD (by rw [List.length_append]; simp only [List.length_cons, List.length_nil]; omega)
  have h00 : nds (framed b) ++ [D.int 0, D.int 0] = nds (framed b ++ [0, 0]) := by rw [nds_app]; rfl
  have hm0 : ∀ q ∈ framed b ++ [0, 0], q < 256 := mem_app256 hfm (by decide)
  walk_at "dx"
  rw [h00, nds_len, frames_eq G _ st2 (by rw [List.length_append]; simp only [List.length_cons, List.length_nil]; omega) hm0]
  walk_at "dx"
  rw [mT]
  walk_at "dx"
  have gL := (hL.app gF).app gG
  have eb : (bodD .tup [b]) = [.tup (nds b)] := rfl
  rw [eb] at hfz
  refine ⟨by decide, by omega, by decide, by decide, by decide, by decide, by simp only [List.length_append, twin_len, List.length_cons, List.length_nil]; omega, L ++ [.tup (nds (framed b))] ++ [frsD (framed b ++ [0, 0])], st2, x3, x4, x5, .val (.lst (nds (framed b))), x7, .val (.int (n : Nat)), x9, x10, x11, x12, x13, x14, .val (.int (o : Nat)), .val (.int (sm b : Nat)), x17, gL, by simp, D2, ?_⟩
  rw [← hfz, twin_app]
end K80

end
section
set_option Elab.async false
set_option linter.all false
set_option maxRecDepth 100000
set_option autoImplicit false
namespace K80
open PySem DD
theorem law_pure (G : Str → Addr) (ns : List Int) (hn : ns.length ≤ 63) : ∃ cs m S', dO G ns 80 = some (cs, m) ∧ b_law G (lawS 18 1 ns cs m) = .ok (.ret (.val (.bl true))) S' := by
  obtain ⟨cs, m, e, hDv⟩ := dO_some G ns 80 (by decide) (by decide)
  have key : Ev (b_law G) (lawS 18 1 ns cs m) fun fl _ => fl = .ret (.val (.bl true)) := by
    have hD : DS (some (cs, m)) := ⟨cs, m, rfl, hDv⟩
    show Ev _ ⟨[.val (.scr ns), .val .deal, .un, .un, .un, .un, .un, .un, .un, .un, .un, .un, .un, .un, .un, .un, .un, .un], some (cs, m)⟩ _
    generalize (some (cs, m) : DSt) = st at hD ⊢
    unfold b_law
    have hs := sizeE
    refine ev_seq (P := fun S => S = ⟨[.val (.scr ns), .val .deal, .own (.lst (twin [])), .own (.lst (rowsD [])), .un, .un, .un, .un, .un, .un, .un, .un, .un, .un, .un, .un, .un, .un], st⟩) (by walk_at "dx"; exact ⟨by decide, by decide, rfl⟩) ?_
    rintro S rfl
    -- the bodies
    refine ev_seq (P := fun S => ∃ (L : List D) (bs : List (List Nat)) (st : DSt) (x4 x5 x6 : Slot), 0 < bs.length ∧ bs.length ≤ 7 ∧ L.length = bs.length ∧ GoodL L ∧ (∀ b ∈ bs, b.length ≤ 300) ∧ (∀ b ∈ bs, ∀ o ∈ b, o < 256) ∧ DS st ∧ S = ⟨[.val (.scr ns), .val .deal, .own (.lst (twin L)), .own (.lst (rowsD bs)), x4, x5, x6, .un, .un, .un, .un, .un, .un, .un, .un, .un, .un, .un], st⟩) ?_ ?_
    · rw [ev_forS]
      obtain ⟨r, st1, e1, d, rfl, hd, k1, D1⟩ := fres_ex (of_ev G [.int 1, .int 2, .int 4, .int 7] st (by simp) (show 4 ≤ sizeLine by decide) hD)
      obtain ⟨v, rfl, hv0, hv7⟩ : ∃ v : Nat, d = .int (v : Nat) ∧ 0 < v ∧ v ≤ 7 := by
        simp only [List.mem_cons, List.not_mem_nil, or_false] at hd
        rcases hd with rfl | rfl | rfl | rfl
        · exact ⟨1, rfl, by decide, by decide⟩
        · exact ⟨2, rfl, by decide, by decide⟩
        · exact ⟨4, rfl, by decide, by decide⟩
        · exact ⟨7, rfl, by decide, by decide⟩
      refine ev_rangeI1 (j := (v : Nat)) ?_
      walk_at "dx"
      rw [e1]
      walk_at "dx"
      have b1 : -(2 ^ 62) ≤ ((v : Nat) : Int) := by omega
      have b2 : ((v : Nat) : Int) < 2 ^ 62 := by omega
      refine ⟨by decide, k1, ⟨b1, b2⟩, ?_⟩
      refine ev_forL (fun l S => ∃ (t : Nat) (L : List D) (bs : List (List Nat)) (st : DSt) (x4 x5 x6 : Slot), l = rangeD (t : Nat) (v : Nat) ∧ t ≤ v ∧ bs.length = t ∧ L.length = t ∧ GoodL L ∧ (∀ b ∈ bs, b.length ≤ 300) ∧ (∀ b ∈ bs, ∀ o ∈ b, o < 256) ∧ DS st ∧ S = ⟨[.val (.scr ns), .val .deal, .own (.lst (twin L)), .own (.lst (rowsD bs)), x4, x5, x6, .un, .un, .un, .un, .un, .un, .un, .un, .un, .un, .un], st⟩)
        ⟨0, [], [], st1, .un, .un, .un, rfl, Nat.zero_le _, rfl, rfl, fun d hd => (by simp at hd), by simp, by simp, D1, rfl⟩ ?_ ?_
      · rintro d r S ⟨t, L, bs, st2, x4, x5, x6, hlr, ht, hbl, hLl, hL, hb, hbm, D2, rfl⟩
        have hlt : t < v := by
          apply Classical.byContradiction
          intro z
          rw [rangeD_nil (by omega)] at hlr
          cases hlr
        rw [rangeD_cons (by omega)] at hlr
        cases hlr
        rw [ev_tgN]
        refine ⟨show 4 < 18 by decide, ?_⟩
        refine ev_seq (P := fun S => ∃ (b : List Nat) (st3 : DSt), b.length ≤ 300 ∧ (∀ o ∈ b, o < 256) ∧ DS st3 ∧ S = ⟨[.val (.scr ns), .val .deal, .own (.lst (twin L)), .own (.lst (rowsD bs)), .val (.int (t : Nat)), .own (.lst (nds b)), x6, .un, .un, .un, .un, .un, .un, .un, .un, .un, .un, .un], st3⟩) ?_ ?_
        · walk_at "dx"
          refine fres_mono (some_body_ev G st2 D2) ?_
          rintro r st3 ⟨b, rfl, hb1, hb2, k3, D3⟩
          exact ⟨k3, b, st3, hb1, hb2, D3, rfl⟩
        rintro S ⟨b, st3, hb1, hb2, D3, rfl⟩
        refine ev_seq (P := fun S => S = ⟨[.val (.scr ns), .val .deal, .own (.lst (twin L)), .own (.lst (rowsD bs)), .val (.int (t : Nat)), .val (.lst (nds b)), .own (.lst (nds (framed b))), .un, .un, .un, .un, .un, .un, .un, .un, .un, .un, .un], st3⟩) ?_ ?_
        · walk_at "dx"
          rw [law_framed_eq G b st3 (by omega) hb2]
          walk_at "dx"
        rintro S rfl
        have gb : Good (.tup (nds (framed b))) := good_nds (by have := framed_len b; have := octs3 (n := b.length) (by omega); omega)
        refine ev_seq (P := fun S => S = ⟨[.val (.scr ns), .val .deal, .own (.lst (twin (L ++ [.tup (nds (framed b))]))), .own (.lst (rowsD bs)), .val (.int (t : Nat)), .val (.lst (nds b)), .val (.lst (nds (framed b))), .un, .un, .un, .un, .un, .un, .un, .un, .un, .un, .un], st3⟩) ?_ ?_
        · walk_at "dx"
          have ek : permK D.non 0 1 [0] [] [D.tup (nds b)] = [D.tup (nds b)] := rfl
          by_cases h3 : t < 2
          · rw [if_pos (by omega), frame_eq G b st3 (by omega) hb2]
            walk_at "dx"
            refine ⟨by decide, by rw [twin_len]; omega, ?_⟩
            rw [twin_app]
          · rw [if_neg (by omega), ek, frame_eq G b st3 (by omega) hb2]
            walk_at "dx"
            refine ⟨by decide, by rw [twin_len]; omega, ?_⟩
            rw [twin_app]
        rintro S rfl
        walk_at "dx"
        refine ⟨by decide, by rw [rowsD_len]; omega, t + 1, L ++ [.tup (nds (framed b))], bs ++ [b], st3, .val (.int (t : Nat)), .val (.lst (nds b)), .val (.lst (nds (framed b))), rfl, by omega, by simp [hbl], by simp [hLl], hL.app gb, ?_, ?_, D3, ?_⟩
        · intro x hx
          rcases List.mem_append.mp hx with q | q
          · exact hb x q
          · rw [List.mem_singleton] at q; rw [q]; exact hb1
        · intro x hx
          rcases List.mem_append.mp hx with q | q
          · exact hbm x q
          · rw [List.mem_singleton] at q; rw [q]; exact hb2
        · rw [rowsD_app]
      · rintro S ⟨t, L, bs, st2, x4, x5, x6, hlr, ht, hbl, hLl, hL, hb, hbm, D2, rfl⟩
        have htv : t = v := by
          apply Classical.byContradiction
          intro z
          rw [rangeD_cons (by omega)] at hlr
          cases hlr
        exact ⟨rfl, L, bs, st2, x4, x5, x6, by omega, by omega, by omega, hL, hb, hbm, D2, rfl⟩
    rintro S ⟨L, bs, st, x4, x5, x6, hb0, hb7, hLl, hL, hb, hbm, hD, rfl⟩
    have fl := flat_len bs hb
    have fm := flat_mem hbm
    have fa := frs_all bs fl.2
    have gfl := fun p => good_flat (p := p) hb hb7
    -- octets
    refine ev_seq (P := fun S => ∃ (x5 x6 : Slot), S = ⟨[.val (.scr ns), .val .deal, .own (.lst (twin L)), .val (.lst (rowsD bs)), x4, x5, x6, .own (.lst (nds (bs.map framed).flatten)), .un, .un, .un, .un, .un, .un, .un, .un, .un, .un], st⟩) ?_ ?_
    · walk_at "dx"
      refine ev_rows (bs := bs) (g := fun b => .lst (nds (framed b))) (by walk_at "dx"; rfl) (by omega) ?_ ?_
      · intro b hb
        walk_at "dx"
      · walk_at "dx"
        rw [bod_framed, law_joined_eq G _ st (by omega)]
        walk_at "dx"
        exact ⟨_, _, rfl⟩
    rintro S ⟨x5, x6, rfl⟩
    generalize hos : (bs.map framed).flatten = os at *
    refine ev_seq (P := fun S => ∃ (x5 x6 : Slot), S = ⟨[.val (.scr ns), .val .deal, .own (.lst (twin (L ++ [frsD os]))), .val (.lst (rowsD bs)), x4, x5, x6, .val (.lst (nds os)), .un, .un, .un, .un, .un, .un, .un, .un, .un, .un], st⟩) ?_ ?_
    · walk_at "dx"
      rw [frames_eq G _ st (by omega) fm]
      walk_at "dx"
      refine ev_rows (bs := bs) (g := fun b => .tup (nds b)) (by walk_at "dx"; rfl) (by omega) ?_ ?_
      · intro b hb
        walk_at "dx"
      · rw [bod_tup]
        walk_at "dx"
        rw [nds_len]
        refine ⟨by decide, by decide, by rw [twin_len]; omega, keepS x5, keepS x6, ?_⟩
        rw [← fa, twin_app]
    rintro S ⟨x5, x6, rfl⟩
    have gL1 := hL.app (good_frsD (os := os) (by omega))
    have lL1 : (L ++ [frsD os]).length ≤ 8 := by rw [List.length_append, hLl]; simp; omega
    generalize (L ++ [frsD os]) = L1 at gL1 lL1 ⊢
    -- three turns
    refine ev_seq (P := fun S => ∃ (L : List D) (st : DSt) (x4 x5 x6 x8 x9 x10 x11 x12 x13 x14 x15 x16 x17 : Slot), GoodL L ∧ L.length ≤ 20 ∧ DS st ∧ S = ⟨[.val (.scr ns), .val .deal, .own (.lst (twin L)), .val (.lst (rowsD bs)), x4, x5, x6, .val (.lst (nds os)), x8, x9, x10, x11, x12, x13, x14, x15, x16, x17], st⟩) ?_ ?_
    · rw [ev_forS]
      refine ev_rangeI1 (j := 3) ?_
      walk_at "dx"
      refine ⟨⟨by decide, by decide⟩, ?_⟩
      refine ev_forL (fun l S => ∃ (t : Nat) (L : List D) (st : DSt) (x4 x5 x6 x8 x9 x10 x11 x12 x13 x14 x15 x16 x17 : Slot), l = rangeD (t : Nat) 3 ∧ t ≤ 3 ∧ GoodL L ∧ L.length ≤ 8 + 4 * t ∧ DS st ∧ S = ⟨[.val (.scr ns), .val .deal, .own (.lst (twin L)), .val (.lst (rowsD bs)), x4, x5, x6, .val (.lst (nds os)), x8, x9, x10, x11, x12, x13, x14, x15, x16, x17], st⟩)
        ⟨0, L1, st, x4, x5, x6, .un, .un, .un, .un, .un, .un, .un, .un, .un, .un, rfl, by decide, gL1, lL1, hD, rfl⟩ ?_ ?_
      · rintro d r S ⟨t, L2, st2, x4, x5, x6, x8, x9, x10, x11, x12, x13, x14, x15, x16, x17, hlr, ht, hL2, hl2, D2, rfl⟩
        have hlt : t < 3 := by
          apply Classical.byContradiction
          intro z
          rw [rangeD_nil (by omega)] at hlr
          cases hlr
        rw [rangeD_cons (by omega)] at hlr
        cases hlr
        rw [ev_tgN]
        refine ⟨show 4 < 18 by decide, ?_⟩
        have T := turn_ev G ns L2 bs os st2 (.val (.int (t : Nat))) x5 x6 x8 x9 x10 x11 x12 x13 x14 x15 x16 x17 hL2 (by omega) hb0 hb7 hb hbm (by omega) fm D2
        show Ev (b_turn G) ⟨[.val (.scr ns), .val .deal, .own (.lst (twin L2)), .val (.lst (rowsD bs)), .val (.int (t : Nat)), x5, x6, .val (.lst (nds os)), x8, x9, x10, x11, x12, x13, x14, x15, x16, x17], st2⟩ _
        refine T.mono ?_
        rintro fl S ⟨rfl, L3, st3, y4, y5, y6, y8, y9, y10, y11, y12, y13, y14, y15, y16, y17, hL3, hl3, D3, rfl⟩
        exact ⟨t + 1, L3, st3, y4, y5, y6, y8, y9, y10, y11, y12, y13, y14, y15, y16, y17, rfl, by omega, hL3, by omega, D3, rfl⟩
      · rintro S ⟨t, L2, st2, x4, x5, x6, x8, x9, x10, x11, x12, x13, x14, x15, x16, x17, hlr, ht, hL2, hl2, D2, rfl⟩
        exact ⟨rfl, L2, st2, x4, x5, x6, x8, x9, x10, x11, x12, x13, x14, x15, x16, x17, hL2, by omega, D2, rfl⟩
    rintro S ⟨L2, st2, x4, x5, x6, x8, x9, x10, x11, x12, x13, x14, x15, x16, x17, hL2, hl2, D2, rfl⟩
    refine ev_seq (P := fun S => ∃ (L : List D) (st : DSt) (x3 x4 x5 x6 x7 x8 x9 x10 x11 x12 x13 x14 x15 x16 x17 : Slot), GoodL L ∧ L.length ≤ 30 ∧ DS st ∧ S = ⟨[.val (.scr ns), .val .deal, .own (.lst (twin L)), x3, x4, x5, x6, x7, x8, x9, x10, x11, x12, x13, x14, x15, x16, x17], st⟩) ?_ ?_
    · have T := great_ev G ns L2 st2 (.val (.lst (rowsD bs))) x4 x5 x6 (.val (.lst (nds os))) x8 x9 x10 x11 x12 x13 x14 x15 x16 x17 hL2 (by omega) D2
      show Ev (b_great G) ⟨[.val (.scr ns), .val .deal, .own (.lst (twin L2)), .val (.lst (rowsD bs)), x4, x5, x6, .val (.lst (nds os)), x8, x9, x10, x11, x12, x13, x14, x15, x16, x17], st2⟩ _
      refine T.mono ?_
      rintro fl S ⟨rfl, L3, st3, y3, y4, y5, y6, y7, y8, y9, y10, y11, y12, y13, y14, y15, y16, y17, hL3, hl3, D3, rfl⟩
      exact ⟨rfl, L3, st3, y3, y4, y5, y6, y7, y8, y9, y10, y11, y12, y13, y14, y15, y16, y17, hL3, by omega, D3, rfl⟩
    clear fm fa gfl hL2 D2 hl2
    rintro S ⟨L4, st4, x3, x4, x5, x6, x7, x8, x9, x10, x11, x12, x13, x14, x15, x16, x17, hL4, hl4, D4, rfl⟩
    have f0 : frsD [] = .tup [.tup [], .int 0] := rfl
    have g0 : Good (frsD []) := good_frsD (by decide)
    have n0 : nds [] = [] := rfl
    have fe := frames_eq G [] st4 (by decide) (by simp)
    rw [f0] at g0 fe
    rw [n0] at fe
    walk_at "dx"
    rw [fe]
    walk_at "dx"
    rw [twin_app, all_eq G _ st4 (fun d hd => (hL4.app g0) d hd)]
    walk_at "dx"
    exact ⟨by decide, by decide, by decide, by decide, by rw [twin_len]; omega⟩
  obtain ⟨fl, S', e2, rfl⟩ := key.elim
  exact ⟨cs, m, S', e, e2⟩
end K80

end
section
set_option Elab.async false
set_option Elab.async false
set_option linter.all false
set_option maxRecDepth 100000
set_option maxHeartbeats 4000000
set_option autoImplicit false
namespace K80
open PySem PySem.Spec PyProof.Rows L2 DD
/-! the walks, printed by gen.py -/

def top (i : Nat) : Stmt := PySem.Challenge.pw_namesenough_k80_frames_are_read_up_to_th.main.body.getD i (.Pass ⟨0, 0, 0, 0⟩)
abbrev s__law_deal : Stmt := top 24
abbrev s__law_joined : Stmt := top 34
abbrev s__law_plain : Stmt := top 30
abbrev s__law_is_kind : Stmt := top 27
abbrev s__law_same : Stmt := top 28
abbrev s__law_all : Stmt := top 29
abbrev s__law_any : Stmt := top 25
abbrev s__law_of : Stmt := top 26
abbrev s__law_octet : Stmt := top 35
abbrev s__law_some_body : Stmt := top 38
abbrev s__law_sum : Stmt := top 32
abbrev s__law_number_octets : Stmt := top 31
abbrev s__law_framed : Stmt := top 33
abbrev s__law_bent : Stmt := top 39
abbrev s_behind_number : Stmt := top 11
abbrev s_number_of : Stmt := top 10
abbrev s_number_in : Stmt := top 12
abbrev s_sum_of_octets : Stmt := top 18
abbrev s_sum_pair : Stmt := top 19
abbrev s_frame_at : Stmt := top 21
abbrev s_frames : Stmt := top 22
abbrev s__law_number_at : Stmt := top 36
abbrev s__law_frames_in : Stmt := top 37
abbrev s__law_due : Stmt := top 40
abbrev s_octets_of_number : Stmt := top 9
abbrev s_number_octets : Stmt := top 17
abbrev s_frame : Stmt := top 20
abbrev s_law : Stmt := top 41
structure Fx (K : PySem.W.Frag) (mg : Str → Option Value) : Prop where
  b_abs : mg "abs" = none
  b_bool : mg "bool" = none
  b_dict : mg "dict" = none
  b_enumerate : mg "enumerate" = none
  b_int : mg "int" = none
  b_isinstance : mg "isinstance" = none
  b_len : mg "len" = none
  b_list : mg "list" = none
  b_range : mg "range" = none
  b_str : mg "str" = none
  b_sum : mg "sum" = none
  b_tuple : mg "tuple" = none
  b_zip : mg "zip" = none
  c_BASE : ∃ t, mg "BASE" = some (.int 128 t)
  c_OCTET : ∃ t, mg "OCTET" = some (.int 256 t)
  c_PRIME : ∃ t, mg "PRIME" = some (.int 65521 t)
  c_SUM_OCTETS : ∃ t, mg "SUM_OCTETS" = some (.int 2 t)
  g_Finding : mg "Finding" = some (.ref (He.ga K "Finding"))
  g_LevelsAnswer : mg "LevelsAnswer" = some (.ref (He.ga K "LevelsAnswer"))
  g_NamesAnswer : mg "NamesAnswer" = some (.ref (He.ga K "NamesAnswer"))
  g_Web : mg "Web" = some (.ref (He.ga K "Web"))
  g__law_deal : mg "_law_deal" = some (.ref (He.ga K "_law_deal"))
  d__law_deal : Dfs K "_law_deal" s__law_deal
  g__law_joined : mg "_law_joined" = some (.ref (He.ga K "_law_joined"))
  d__law_joined : Dfs K "_law_joined" s__law_joined
  g__law_plain : mg "_law_plain" = some (.ref (He.ga K "_law_plain"))
  d__law_plain : Dfs K "_law_plain" s__law_plain
  g__law_is_kind : mg "_law_is_kind" = some (.ref (He.ga K "_law_is_kind"))
  d__law_is_kind : Dfs K "_law_is_kind" s__law_is_kind
  g__law_same : mg "_law_same" = some (.ref (He.ga K "_law_same"))
  d__law_same : Dfs K "_law_same" s__law_same
  g__law_all : mg "_law_all" = some (.ref (He.ga K "_law_all"))
  d__law_all : Dfs K "_law_all" s__law_all
  g__law_any : mg "_law_any" = some (.ref (He.ga K "_law_any"))
  d__law_any : Dfs K "_law_any" s__law_any
  g__law_of : mg "_law_of" = some (.ref (He.ga K "_law_of"))
  d__law_of : Dfs K "_law_of" s__law_of
  g__law_octet : mg "_law_octet" = some (.ref (He.ga K "_law_octet"))
  d__law_octet : Dfs K "_law_octet" s__law_octet
  g__law_some_body : mg "_law_some_body" = some (.ref (He.ga K "_law_some_body"))
  d__law_some_body : Dfs K "_law_some_body" s__law_some_body
  g__law_sum : mg "_law_sum" = some (.ref (He.ga K "_law_sum"))
  d__law_sum : Dfs K "_law_sum" s__law_sum
  g__law_number_octets : mg "_law_number_octets" = some (.ref (He.ga K "_law_number_octets"))
  d__law_number_octets : Dfs K "_law_number_octets" s__law_number_octets
  g__law_framed : mg "_law_framed" = some (.ref (He.ga K "_law_framed"))
  d__law_framed : Dfs K "_law_framed" s__law_framed
  g__law_bent : mg "_law_bent" = some (.ref (He.ga K "_law_bent"))
  d__law_bent : Dfs K "_law_bent" s__law_bent
  g_behind_number : mg "behind_number" = some (.ref (He.ga K "behind_number"))
  d_behind_number : Dfs K "behind_number" s_behind_number
  g_number_of : mg "number_of" = some (.ref (He.ga K "number_of"))
  d_number_of : Dfs K "number_of" s_number_of
  g_number_in : mg "number_in" = some (.ref (He.ga K "number_in"))
  d_number_in : Dfs K "number_in" s_number_in
  g_sum_of_octets : mg "sum_of_octets" = some (.ref (He.ga K "sum_of_octets"))
  d_sum_of_octets : Dfs K "sum_of_octets" s_sum_of_octets
  g_sum_pair : mg "sum_pair" = some (.ref (He.ga K "sum_pair"))
  d_sum_pair : Dfs K "sum_pair" s_sum_pair
  g_frame_at : mg "frame_at" = some (.ref (He.ga K "frame_at"))
  d_frame_at : Dfs K "frame_at" s_frame_at
  g_frames : mg "frames" = some (.ref (He.ga K "frames"))
  d_frames : Dfs K "frames" s_frames
  g__law_number_at : mg "_law_number_at" = some (.ref (He.ga K "_law_number_at"))
  d__law_number_at : Dfs K "_law_number_at" s__law_number_at
  g__law_frames_in : mg "_law_frames_in" = some (.ref (He.ga K "_law_frames_in"))
  d__law_frames_in : Dfs K "_law_frames_in" s__law_frames_in
  g__law_due : mg "_law_due" = some (.ref (He.ga K "_law_due"))
  d__law_due : Dfs K "_law_due" s__law_due
  g_octets_of_number : mg "octets_of_number" = some (.ref (He.ga K "octets_of_number"))
  d_octets_of_number : Dfs K "octets_of_number" s_octets_of_number
  g_number_octets : mg "number_octets" = some (.ref (He.ga K "number_octets"))
  d_number_octets : Dfs K "number_octets" s_number_octets
  g_frame : mg "frame" = some (.ref (He.ga K "frame"))
  d_frame : Dfs K "frame" s_frame
  g_law : mg "law" = some (.ref (He.ga K "law"))
  d_law : Dfs K "law" s_law
  isi : IsiF K (csG (He.ga K))
section
variable {P : Program} {w : World} {K : PySem.W.Frag} {mg : Str → Option Value} {base : Heap}
/-! ### _law_deal -/
abbrev N__law_deal : List Str := ["script", "salt", "most", "cells", "mix", "cell"]
theorem sc__law_deal : FnScope N__law_deal ["script", "salt"] (defScope s__law_deal) := ⟨rfl, rfl, rfl, by decide +kernel, rfl, by decide +kernel, by decide +kernel⟩
theorem w__law_deal (x : Fx K mg) (cdv : Value) (A : Around) (outer : List Env) (s : Shared) (H : Hp) (E : XK) (hr : Room 0 (A.deeper (envOfC "_law_deal" (defScope s__law_deal) s.heap.objs.size (He.ga K "_law_deal") cdv))) :
    PSs (cxOf CX0 P w K mg base N__law_deal "_law_deal" (defScope s__law_deal) (He.ga K "_law_deal") cdv A outer s H E).nox (defBody s__law_deal) (tDeal K (b_deal1 (He.ga K)) (b_deal2 (He.ga K)) (b_deal3 (He.ga K)) (b_dealC (He.ga K)) (b_dealM (He.ga K))) := by
  have nd : N__law_deal.Nodup := sc__law_deal.nd
  exact dss_deal (ds_set (i := 2) nd rfl (Or.inr rfl) (de_bin op_mulTD mulTD_ok (de_bin op_mulTD mulTD_ok (de_bin op_mulTD mulTD_ok (de_bin op_mulTD mulTD_ok (de_bin op_mulTD mulTD_ok (de_bin op_pow powD_ok de_int de_int) (de_bin op_pow powD_ok de_int de_int)) (de_bin op_pow powD_ok de_int de_int)) (de_bin op_pow powD_ok de_int de_int)) (de_bin op_pow powD_ok de_int de_int)) (de_bin op_pow powD_ok de_int de_int))) (ds_parO (i := 3) (j := 4) rfl nd rfl rfl (by decide) rfl rfl (de_comp (own := [("cell", 5)]) rfl nd (di_any (de_slice sl_D slD_ok (de_var (pv 0)) do_none (do_some de_int))) (blkOk_by (N := N__law_deal) (sc := defScope s__law_deal) (by decide +kernel)) (fun _ _ _ _ _ => (dg_name (i := 5) nd rfl (Or.inl rfl))) (fun _ _ _ _ _ => dts_nil) (fun _ _ _ _ _ => (de_bin op_mod modD_ok (de_callTy call_int1 int1D_ok rfl x.b_int (by first | rfl | decide +kernel) (da_cons (de_callB call_abs absD_ok rfl x.b_abs (by first | rfl | decide +kernel) (da_cons (de_callTy call_int1 int1D_ok rfl x.b_int (by first | rfl | decide +kernel) (da_cons (de_var (pv 5)) da_nil)) da_nil)) da_nil)) (de_var (pv 2)))) (his := by decide)) (de_bin op_addD addD_ok de_int (de_bin op_mulTD mulTD_ok de_int (de_var (pv 1))))) (ds_for PassesOwn.never rfl (di_any (de_var (pv 3))) (dg_name (i := 5) nd rfl (Or.inl rfl)) (dss_one (ds_set (i := 4) nd rfl (Or.inl rfl) (de_bin op_mod modD_ok (de_callTy call_int1 int1D_ok rfl x.b_int (by first | rfl | decide +kernel) (da_cons (de_bin op_addD addD_ok (de_bin op_addD addD_ok (de_bin op_mulTD mulTD_ok (de_var (pv 4)) de_int) (de_bin op_mod modD_ok (de_callTy call_int1 int1D_ok rfl x.b_int (by first | rfl | decide +kernel) (da_cons (de_var (pv 5)) da_nil)) de_int)) de_int) da_nil)) de_int)))) (de_revL (de_comp (own := [("cell", 5)]) rfl nd (di_any (de_var (pv 3))) (blkOk_by (N := N__law_deal) (sc := defScope s__law_deal) (by decide +kernel)) (fun _ _ _ _ _ => (dg_name (i := 5) nd rfl (Or.inl rfl))) (fun _ _ _ _ _ => (dts_one (dt_cmp op_ge cmpD_ok (de_var (pv 5)) (de_bin op_pow powD_ok de_int de_int) (by first | rfl | exact nomark _)))) (fun _ _ _ _ _ => (de_var (pv 5))) (his := by decide))) (de_var (pv 4))
theorem k__law_deal (x : Fx K mg) : DealCal P w K mg base 1 (dO (He.ga K)) := by
  obtain ⟨fd, F⟩ := x.d__law_deal
  exact ⟨fd, ["script", "salt"], rfl, x.g__law_deal, F.kp, F.bindsN (fun _ _ _ _ _ _ us hl => match us, hl with | [_, _], _ => rfl), deal_ok F sc__law_deal rfl (w__law_deal x)⟩
/-! ### _law_joined -/
abbrev N__law_joined : List Str := ["rows", "found", "row"]
theorem sc__law_joined : FnScope N__law_joined ["rows"] (defScope s__law_joined) := ⟨rfl, rfl, rfl, by decide +kernel, rfl, by decide +kernel, by decide +kernel⟩
theorem w__law_joined (x : Fx K mg) (cdv : Value) (A : Around) (outer : List Env) (s : Shared) (H : Hp) (E : XK) (hr : Room 0 (A.deeper (envOfC "_law_joined" (defScope s__law_joined) s.heap.objs.size (He.ga K "_law_joined") cdv))) :
    DSs (cxOf CX0 P w K mg base N__law_joined "_law_joined" (defScope s__law_joined) (He.ga K "_law_joined") cdv A outer s H E).nox noE (defBody s__law_joined) (b__law_joined (He.ga K)) := by
  have nd : N__law_joined.Nodup := sc__law_joined.nd
  exact (dss_cons (ds_set (i := 1) nd rfl (Or.inl rfl) (de_lst da_nil))
  (dss_cons (ds_for PassesOwn.never rfl (di_any (de_var (pv 0))) (dg_name (i := 2) nd rfl (Or.inl rfl)) (dss_one (ds_set (i := 1) nd rfl (Or.inl rfl) (de_bin op_addD addD_ok (de_var (pv 1)) (de_var (pv 2))))))
  (dss_one (ds_ret (de_varm (pv 1))))))
theorem f__law_joined (x : Fx K mg) : ∃ fd, FunD K "_law_joined" "_law_joined" (defArgs s__law_joined) (defBody s__law_joined) (defScope s__law_joined) [] [] (He.ga K "_law_joined") fd ∧ FnOk P w K mg base CX0 1 (He.ga K "_law_joined") fd ["rows"] (spD K 1 (fn__law_joined (He.ga K))) := by
  obtain ⟨fd, F⟩ := x.d__law_joined
  exact ⟨fd, F, fn_ok F sc__law_joined (w__law_joined x)⟩
theorem k__law_joined (x : Fx K mg) : Cal P w K mg base 1 "_law_joined" 1 (fn__law_joined (He.ga K)) := by
  obtain ⟨fd, F, O⟩ := f__law_joined (P := P) (w := w) (base := base) x
  exact cal_of (ps := ["rows"]) x.g__law_joined F (fun _ _ _ _ _ _ us hl => match us, hl with | [_], _ => rfl) O
/-! ### _law_plain -/
abbrev N__law_plain : List Str := ["value"]
theorem sc__law_plain : FnScope N__law_plain ["value"] (defScope s__law_plain) := ⟨rfl, rfl, rfl, by decide +kernel, rfl, by decide +kernel, by decide +kernel⟩
theorem w__law_plain (x : Fx K mg) (cdv : Value) (A : Around) (outer : List Env) (s : Shared) (H : Hp) (E : XK) (hr : Room 0 (A.deeper (envOfC "_law_plain" (defScope s__law_plain) s.heap.objs.size (He.ga K "_law_plain") cdv))) :
    DSs (cxOf CX0 P w K mg base N__law_plain "_law_plain" (defScope s__law_plain) (He.ga K "_law_plain") cdv A outer s H E).nox noE (defBody s__law_plain) (b__law_plain (He.ga K)) := by
  have nd : N__law_plain.Nodup := sc__law_plain.nd
  exact (dss_cons (ds_if (dt_val (de_callB call_isiD (isiD_ok x.isi) rfl x.b_isinstance (by first | rfl | decide +kernel) (da_cons (de_var (pv 0)) (da_cons (de_gadr rfl x.g_Finding) da_nil)))) (dss_one (ds_ret (de_tup (da_cons de_str (da_cons de_bad (da_cons de_bad da_nil)))))) dss_nil)
  (dss_cons (ds_if (dt_val (de_callB call_isiD (isiD_ok x.isi) rfl x.b_isinstance (by first | rfl | decide +kernel) (da_cons (de_var (pv 0)) (da_cons (de_tup (da_cons (de_gadr rfl x.g_NamesAnswer) (da_cons (de_gadr rfl x.g_LevelsAnswer) da_nil))) da_nil)))) (dss_one (ds_ret (de_tup (da_cons (de_if (dt_val (de_callB call_isiD (isiD_ok x.isi) rfl x.b_isinstance (by first | rfl | decide +kernel) (da_cons (de_var (pv 0)) (da_cons (de_gadr rfl x.g_NamesAnswer) da_nil)))) de_str de_str) (da_cons de_bad (da_cons de_bad (da_cons de_bad da_nil))))))) dss_nil)
  (dss_one (ds_ret (de_if (dt_val (de_callB call_isiD (isiD_ok x.isi) rfl x.b_isinstance (by first | rfl | decide +kernel) (da_cons (de_var (pv 0)) (da_cons (de_gadr rfl x.g_Web) da_nil)))) (de_tup (da_cons de_str (da_cons de_bad (da_cons de_bad da_nil)))) (de_var (pv 0)))))))
theorem f__law_plain (x : Fx K mg) : ∃ fd, FunD K "_law_plain" "_law_plain" (defArgs s__law_plain) (defBody s__law_plain) (defScope s__law_plain) [] [] (He.ga K "_law_plain") fd ∧ FnOk P w K mg base CX0 1 (He.ga K "_law_plain") fd ["value"] (spD K 1 (fn__law_plain (He.ga K))) := by
  obtain ⟨fd, F⟩ := x.d__law_plain
  exact ⟨fd, F, fn_ok F sc__law_plain (w__law_plain x)⟩
theorem k__law_plain (x : Fx K mg) : Cal P w K mg base 1 "_law_plain" 1 (fn__law_plain (He.ga K)) := by
  obtain ⟨fd, F, O⟩ := f__law_plain (P := P) (w := w) (base := base) x
  exact cal_of (ps := ["value"]) x.g__law_plain F (fun _ _ _ _ _ _ us hl => match us, hl with | [_], _ => rfl) O
/-! ### _law_is_kind -/
abbrev N__law_is_kind : List Str := ["told", "due"]
theorem sc__law_is_kind : FnScope N__law_is_kind ["told", "due"] (defScope s__law_is_kind) := ⟨rfl, rfl, rfl, by decide +kernel, rfl, by decide +kernel, by decide +kernel⟩
theorem w__law_is_kind (x : Fx K mg) (cdv : Value) (A : Around) (outer : List Env) (s : Shared) (H : Hp) (E : XK) (hr : Room 0 (A.deeper (envOfC "_law_is_kind" (defScope s__law_is_kind) s.heap.objs.size (He.ga K "_law_is_kind") cdv))) :
    DSs (cxOf CX0 P w K mg base N__law_is_kind "_law_is_kind" (defScope s__law_is_kind) (He.ga K "_law_is_kind") cdv A outer s H E).nox noE (defBody s__law_is_kind) (b__law_is_kind (He.ga K)) := by
  have nd : N__law_is_kind.Nodup := sc__law_is_kind.nd
  exact (dss_cons (ds_if (dt_cmp op_isP isD_ok (de_var (pv 1)) de_non (by first | rfl | exact nomark _)) (dss_one (ds_ret (de_cmp op_isP isD_ok (de_var (pv 0)) de_non (by first | rfl | exact nomark _)))) dss_nil)
  (dss_cons (ds_if (dt_w (dw_or (dt_cmp op_isP isD_ok (de_var (pv 1)) de_bl (by first | rfl | exact nomark _)) (dw_or1 (dt_cmp op_isP isD_ok (de_var (pv 1)) de_bl (by first | rfl | exact nomark _))))) (dss_one (ds_ret (de_if (dt_val (de_var (pv 1))) (de_cmp op_isP isD_ok (de_var (pv 0)) de_bl (by first | rfl | exact nomark _)) (de_cmp op_isP isD_ok (de_var (pv 0)) de_bl (by first | rfl | exact nomark _))))) dss_nil)
  (dss_cons (ds_if (dt_val (de_callB call_isiD (isiD_ok x.isi) rfl x.b_isinstance (by first | rfl | decide +kernel) (da_cons (de_var (pv 1)) (da_cons (de_gty rfl x.b_str (by first | rfl | decide +kernel)) da_nil)))) (dss_one (ds_ret (de_and (de_callB call_isiD (isiD_ok x.isi) rfl x.b_isinstance (by first | rfl | decide +kernel) (da_cons (de_var (pv 0)) (da_cons (de_gty rfl x.b_str (by first | rfl | decide +kernel)) da_nil))) (de_one (de_cmp (op_eqD (Room.units hr)) eqD_ok (de_var (pv 0)) (de_var (pv 1)) (by first | rfl | exact nomark _)))))) dss_nil)
  (dss_one (ds_ret (de_and (de_callB call_isiD (isiD_ok x.isi) rfl x.b_isinstance (by first | rfl | decide +kernel) (da_cons (de_var (pv 0)) (da_cons (de_gty rfl x.b_int (by first | rfl | decide +kernel)) da_nil))) (de_and (de_not (de_callB call_isiD (isiD_ok x.isi) rfl x.b_isinstance (by first | rfl | decide +kernel) (da_cons (de_var (pv 0)) (da_cons (de_gty rfl x.b_bool (by first | rfl | decide +kernel)) da_nil)))) (de_one (de_cmp (op_eqD (Room.units hr)) eqD_ok (de_var (pv 0)) (de_var (pv 1)) (by first | rfl | exact nomark _))))))))))
theorem f__law_is_kind (x : Fx K mg) : ∃ fd, FunD K "_law_is_kind" "_law_is_kind" (defArgs s__law_is_kind) (defBody s__law_is_kind) (defScope s__law_is_kind) [] [] (He.ga K "_law_is_kind") fd ∧ FnOk P w K mg base CX0 1 (He.ga K "_law_is_kind") fd ["told", "due"] (spD K 2 (fn__law_is_kind (He.ga K))) := by
  obtain ⟨fd, F⟩ := x.d__law_is_kind
  exact ⟨fd, F, fn_ok F sc__law_is_kind (w__law_is_kind x)⟩
theorem k__law_is_kind (x : Fx K mg) : Cal P w K mg base 1 "_law_is_kind" 2 (fn__law_is_kind (He.ga K)) := by
  obtain ⟨fd, F, O⟩ := f__law_is_kind (P := P) (w := w) (base := base) x
  exact cal_of (ps := ["told", "due"]) x.g__law_is_kind F (fun _ _ _ _ _ _ us hl => match us, hl with | [_, _], _ => rfl) O
/-! ### _law_same -/
abbrev N__law_same : List Str := ["told", "due", "todo", "one", "other"]
theorem sc__law_same : FnScope N__law_same ["told", "due"] (defScope s__law_same) := ⟨rfl, rfl, rfl, by decide +kernel, rfl, by decide +kernel, by decide +kernel⟩
theorem w__law_same (x : Fx K mg) (cdv : Value) (A : Around) (outer : List Env) (s : Shared) (H : Hp) (E : XK) (hr : Room 1 (A.deeper (envOfC "_law_same" (defScope s__law_same) s.heap.objs.size (He.ga K "_law_same") cdv))) :
    DSs (cxOf CX0 P w K mg base N__law_same "_law_same" (defScope s__law_same) (He.ga K "_law_same") cdv A outer s H E).nox noE (defBody s__law_same) (b__law_same (He.ga K)) := by
  have nd : N__law_same.Nodup := sc__law_same.nd
  exact (dss_cons (ds_set (i := 2) nd rfl (Or.inl rfl) (de_lst (da_cons (de_tup (da_cons (de_var (pv 0)) (da_cons (de_var (pv 1)) da_nil))) da_nil)))
  (dss_cons (ds_while PassesOwn.never (dt_cmp op_gt cmpD_ok (de_lenV rfl x.b_len (pv 2)) de_int (by first | rfl | exact nomark _)) (dss_cons (ds_asg (de_mut0 PySem.F.plainAttrs_list PySem.F.slot_list_pop PySem.F.type_list_pop mt_pop popF_ok (pv 2)) (dg_any rfl (dgs_cons (dg_name (i := 3) nd rfl (Or.inl rfl)) (dgs_cons (dg_name (i := 4) nd rfl (Or.inl rfl)) dgs_nil))))
  (dss_cons (ds_set (i := 3) nd rfl (Or.inl rfl) (de_cal (k__law_plain x) (hr.mono (by decide)) rfl (da_cons (de_var (pv 3)) da_nil)))
  (dss_one (ds_if (dt_val (de_callB call_isiD (isiD_ok x.isi) rfl x.b_isinstance (by first | rfl | decide +kernel) (da_cons (de_var (pv 4)) (da_cons (de_gty rfl x.b_tuple (by first | rfl | decide +kernel)) da_nil)))) (dss_cons (ds_if (dt_w (dw_or (dt_not (dt_val (de_callB call_isiD (isiD_ok x.isi) rfl x.b_isinstance (by first | rfl | decide +kernel) (da_cons (de_var (pv 3)) (da_cons (de_gty rfl x.b_tuple (by first | rfl | decide +kernel)) da_nil))))) (dw_or1 (dt_cmp (op_neD (Room.units hr)) neD_ok (de_lenV rfl x.b_len (pv 3)) (de_lenV rfl x.b_len (pv 4)) (by first | rfl | exact nomark _))))) (dss_one (ds_ret de_bl)) dss_nil)
  (dss_one (ds_set (i := 2) nd rfl (Or.inl rfl) (de_bin op_addD addD_ok (de_var (pv 2)) (de_listzip rfl rfl x.b_list rfl x.b_zip (da_cons (de_var (pv 3)) (da_cons (de_var (pv 4)) da_nil))))))) (dss_one (ds_if (dt_w (dw_or (dt_val (de_callB call_isiD (isiD_ok x.isi) rfl x.b_isinstance (by first | rfl | decide +kernel) (da_cons (de_var (pv 3)) (da_cons (de_tup (da_cons (de_gty rfl x.b_tuple (by first | rfl | decide +kernel)) (da_cons (de_gty rfl x.b_list (by first | rfl | decide +kernel)) (da_cons (de_gty rfl x.b_dict (by first | rfl | decide +kernel)) da_nil)))) da_nil)))) (dw_or1 (dt_not (dt_val (de_cal (k__law_is_kind x) (hr.mono (by decide)) rfl (da_cons (de_var (pv 3)) (da_cons (de_var (pv 4)) da_nil)))))))) (dss_one (ds_ret de_bl)) dss_nil)))))))
  (dss_one (ds_ret de_bl))))
theorem f__law_same (x : Fx K mg) : ∃ fd, FunD K "_law_same" "_law_same" (defArgs s__law_same) (defBody s__law_same) (defScope s__law_same) [] [] (He.ga K "_law_same") fd ∧ FnOk P w K mg base CX0 2 (He.ga K "_law_same") fd ["told", "due"] (spD K 2 (fn__law_same (He.ga K))) := by
  obtain ⟨fd, F⟩ := x.d__law_same
  exact ⟨fd, F, fn_ok F sc__law_same (w__law_same x)⟩
theorem k__law_same (x : Fx K mg) : Cal P w K mg base 2 "_law_same" 2 (fn__law_same (He.ga K)) := by
  obtain ⟨fd, F, O⟩ := f__law_same (P := P) (w := w) (base := base) x
  exact cal_of (ps := ["told", "due"]) x.g__law_same F (fun _ _ _ _ _ _ us hl => match us, hl with | [_, _], _ => rfl) O
/-! ### _law_all -/
abbrev N__law_all : List Str := ["pairs", "told", "due"]
theorem sc__law_all : FnScope N__law_all ["pairs"] (defScope s__law_all) := ⟨rfl, rfl, rfl, by decide +kernel, rfl, by decide +kernel, by decide +kernel⟩
theorem w__law_all (x : Fx K mg) (cdv : Value) (A : Around) (outer : List Env) (s : Shared) (H : Hp) (E : XK) (hr : Room 2 (A.deeper (envOfC "_law_all" (defScope s__law_all) s.heap.objs.size (He.ga K "_law_all") cdv))) :
    DSs (cxOf CX0 P w K mg base N__law_all "_law_all" (defScope s__law_all) (He.ga K "_law_all") cdv A outer s H E).nox noE (defBody s__law_all) (b__law_all (He.ga K)) := by
  have nd : N__law_all.Nodup := sc__law_all.nd
  exact (dss_one (ds_ret (de_cmp (op_eqD (Room.units hr)) eqD_ok (de_len rfl x.b_len (da_cons (de_comp (own := [("told", 1), ("due", 2)]) rfl nd (di_any (de_var (pv 0))) (blkOk_by (N := N__law_all) (sc := defScope s__law_all) (by decide +kernel)) (fun _ _ _ _ _ => (dg_any rfl (dgs_cons (dg_name (i := 1) nd rfl (Or.inl rfl)) (dgs_cons (dg_name (i := 2) nd rfl (Or.inl rfl)) dgs_nil)))) (fun _ _ _ _ _ => (dts_one (dt_not (dt_val (de_cal (k__law_same x) (hr.mono (by decide)) rfl (da_cons (de_var (pv 1)) (da_cons (de_var (pv 2)) da_nil))))))) (fun _ _ _ _ _ => (de_var (pv 1))) (his := by decide)) da_nil)) de_int (by first | rfl | exact nomark _))))
theorem f__law_all (x : Fx K mg) : ∃ fd, FunD K "_law_all" "_law_all" (defArgs s__law_all) (defBody s__law_all) (defScope s__law_all) [] [] (He.ga K "_law_all") fd ∧ FnOk P w K mg base CX0 3 (He.ga K "_law_all") fd ["pairs"] (spD K 1 (fn__law_all (He.ga K))) := by
  obtain ⟨fd, F⟩ := x.d__law_all
  exact ⟨fd, F, fn_ok F sc__law_all (w__law_all x)⟩
theorem k__law_all (x : Fx K mg) : Cal P w K mg base 3 "_law_all" 1 (fn__law_all (He.ga K)) := by
  obtain ⟨fd, F, O⟩ := f__law_all (P := P) (w := w) (base := base) x
  exact cal_of (ps := ["pairs"]) x.g__law_all F (fun _ _ _ _ _ _ us hl => match us, hl with | [_], _ => rfl) O
/-! ### _law_any -/
abbrev N__law_any : List Str := ["deal", "bound", "rest"]
theorem sc__law_any : FnScope N__law_any ["deal", "bound"] (defScope s__law_any) := ⟨rfl, rfl, rfl, by decide +kernel, rfl, by decide +kernel, by decide +kernel⟩
theorem w__law_any (x : Fx K mg) (cdv : Value) (A : Around) (outer : List Env) (s : Shared) (H : Hp) (E : XK) (hr : Room 0 (A.deeper (envOfC "_law_any" (defScope s__law_any) s.heap.objs.size (He.ga K "_law_any") cdv))) :
    DSs (cxOf CX0 P w K mg base N__law_any "_law_any" (defScope s__law_any) (He.ga K "_law_any") cdv A outer s H E).nox noE (defBody s__law_any) (b__law_any (He.ga K)) := by
  have nd : N__law_any.Nodup := sc__law_any.nd
  exact (dss_cons (ds_while PassesOwn.never (dt_w (dw_and (dt_cmp op_gt cmpD_ok (de_lenDeal rfl x.b_len (pe_ix ix_seq (pv 0) pe_int (fun _ _ => rfl))) de_int (by first | rfl | exact nomark _)) (dw_and1 (dt_cmp (op_eqD (Room.units hr)) eqD_ok (de_lastDeal (pe_ix ix_seq (pv 0) pe_int (fun _ _ => rfl)) (pe_un un_neg pe_int) (fun _ _ => rfl)) de_int (by first | rfl | exact nomark _))))) (dss_one (ds_expr (de_popDeal (pe_ix ix_seq (pv 0) pe_int (fun _ _ => rfl))))))
  (dss_cons (ds_if (dt_cmp op_gt cmpD_ok (de_lenDeal rfl x.b_len (pe_ix ix_seq (pv 0) pe_int (fun _ _ => rfl))) de_int (by first | rfl | exact nomark _)) (dss_cons (ds_set (i := 2) nd rfl (Or.inl rfl) (de_callTy call_int1 int1D_ok rfl x.b_int (by first | rfl | decide +kernel) (da_cons (de_popDeal (pe_ix ix_seq (pv 0) pe_int (fun _ _ => rfl))) da_nil)))
  (dss_cons (ds_expr (de_appDeal (pe_ix ix_seq (pv 0) pe_int (fun _ _ => rfl)) (de_bin op_fdivW fdivD_ok (de_var (pv 2)) (de_var (pv 1)))))
  (dss_one (ds_ret (de_bin op_mod modD_ok (de_var (pv 2)) (de_var (pv 1))))))) dss_nil)
  (dss_cons (ds_setDeal (de_bin op_mod modD_ok (de_callTy call_int1 int1D_ok rfl x.b_int (by first | rfl | decide +kernel) (da_cons (de_bin op_addD addD_ok (de_bin op_mulTD mulTD_ok (de_mixDeal (pv 0) pe_int (fun _ _ => rfl)) de_int) de_int) da_nil)) de_int) (pv 0) pe_int)
  (dss_one (ds_ret (de_bin op_mod modD_ok (de_callTy call_int1 int1D_ok rfl x.b_int (by first | rfl | decide +kernel) (da_cons (de_bin op_fdivW fdivD_ok (de_mixDeal (pv 0) pe_int (fun _ _ => rfl)) de_int) da_nil)) (de_var (pv 1))))))))
theorem f__law_any (x : Fx K mg) : ∃ fd, FunD K "_law_any" "_law_any" (defArgs s__law_any) (defBody s__law_any) (defScope s__law_any) [] [] (He.ga K "_law_any") fd ∧ FnOk P w K mg base CX0 1 (He.ga K "_law_any") fd ["deal", "bound"] (spD K 2 (fn__law_any (He.ga K))) := by
  obtain ⟨fd, F⟩ := x.d__law_any
  exact ⟨fd, F, fn_ok F sc__law_any (w__law_any x)⟩
theorem k__law_any (x : Fx K mg) : Cal P w K mg base 1 "_law_any" 2 (fn__law_any (He.ga K)) := by
  obtain ⟨fd, F, O⟩ := f__law_any (P := P) (w := w) (base := base) x
  exact cal_of (ps := ["deal", "bound"]) x.g__law_any F (fun _ _ _ _ _ _ us hl => match us, hl with | [_, _], _ => rfl) O
/-! ### _law_of -/
abbrev N__law_of : List Str := ["deal", "some"]
theorem sc__law_of : FnScope N__law_of ["deal", "some"] (defScope s__law_of) := ⟨rfl, rfl, rfl, by decide +kernel, rfl, by decide +kernel, by decide +kernel⟩
theorem w__law_of (x : Fx K mg) (cdv : Value) (A : Around) (outer : List Env) (s : Shared) (H : Hp) (E : XK) (hr : Room 1 (A.deeper (envOfC "_law_of" (defScope s__law_of) s.heap.objs.size (He.ga K "_law_of") cdv))) :
    DSs (cxOf CX0 P w K mg base N__law_of "_law_of" (defScope s__law_of) (He.ga K "_law_of") cdv A outer s H E).nox noE (defBody s__law_of) (b__law_of (He.ga K)) := by
  have nd : N__law_of.Nodup := sc__law_of.nd
  exact (dss_one (ds_ret (de_ixV (pv 1) (de_cal (k__law_any x) (hr.mono (by decide)) rfl (da_cons (de_var (pv 0)) (da_cons (de_lenV rfl x.b_len (pv 1)) da_nil))) (fun _ _ => rfl))))
theorem f__law_of (x : Fx K mg) : ∃ fd, FunD K "_law_of" "_law_of" (defArgs s__law_of) (defBody s__law_of) (defScope s__law_of) [] [] (He.ga K "_law_of") fd ∧ FnOk P w K mg base CX0 2 (He.ga K "_law_of") fd ["deal", "some"] (spD K 2 (fn__law_of (He.ga K))) := by
  obtain ⟨fd, F⟩ := x.d__law_of
  exact ⟨fd, F, fn_ok F sc__law_of (w__law_of x)⟩
theorem k__law_of (x : Fx K mg) : Cal P w K mg base 2 "_law_of" 2 (fn__law_of (He.ga K)) := by
  obtain ⟨fd, F, O⟩ := f__law_of (P := P) (w := w) (base := base) x
  exact cal_of (ps := ["deal", "some"]) x.g__law_of F (fun _ _ _ _ _ _ us hl => match us, hl with | [_, _], _ => rfl) O
/-! ### _law_octet -/
abbrev N__law_octet : List Str := ["deal"]
theorem sc__law_octet : FnScope N__law_octet ["deal"] (defScope s__law_octet) := ⟨rfl, rfl, rfl, by decide +kernel, rfl, by decide +kernel, by decide +kernel⟩
theorem w__law_octet (x : Fx K mg) (cdv : Value) (A : Around) (outer : List Env) (s : Shared) (H : Hp) (E : XK) (hr : Room 2 (A.deeper (envOfC "_law_octet" (defScope s__law_octet) s.heap.objs.size (He.ga K "_law_octet") cdv))) :
    DSs (cxOf CX0 P w K mg base N__law_octet "_law_octet" (defScope s__law_octet) (He.ga K "_law_octet") cdv A outer s H E).nox noE (defBody s__law_octet) (b__law_octet (He.ga K)) := by
  have nd : N__law_octet.Nodup := sc__law_octet.nd
  exact (dss_one (ds_ret (de_cal (k__law_of x) (hr.mono (by decide)) rfl (da_cons (de_var (pv 0)) (da_cons (de_lst (da_cons de_int (da_cons de_int (da_cons de_int (da_cons de_int (da_cons de_int (da_cons (de_cal (k__law_any x) (hr.mono (by decide)) rfl (da_cons (de_var (pv 0)) (da_cons de_int da_nil))) (da_cons (de_cal (k__law_any x) (hr.mono (by decide)) rfl (da_cons (de_var (pv 0)) (da_cons de_int da_nil))) (da_cons (de_cal (k__law_any x) (hr.mono (by decide)) rfl (da_cons (de_var (pv 0)) (da_cons de_int da_nil))) da_nil))))))))) da_nil)))))
theorem f__law_octet (x : Fx K mg) : ∃ fd, FunD K "_law_octet" "_law_octet" (defArgs s__law_octet) (defBody s__law_octet) (defScope s__law_octet) [] [] (He.ga K "_law_octet") fd ∧ FnOk P w K mg base CX0 3 (He.ga K "_law_octet") fd ["deal"] (spD K 1 (fn__law_octet (He.ga K))) := by
  obtain ⟨fd, F⟩ := x.d__law_octet
  exact ⟨fd, F, fn_ok F sc__law_octet (w__law_octet x)⟩
theorem k__law_octet (x : Fx K mg) : Cal P w K mg base 3 "_law_octet" 1 (fn__law_octet (He.ga K)) := by
  obtain ⟨fd, F, O⟩ := f__law_octet (P := P) (w := w) (base := base) x
  exact cal_of (ps := ["deal"]) x.g__law_octet F (fun _ _ _ _ _ _ us hl => match us, hl with | [_], _ => rfl) O
/-! ### _law_some_body -/
abbrev N__law_some_body : List Str := ["deal", "many", "one", "step", "turn"]
theorem sc__law_some_body : FnScope N__law_some_body ["deal"] (defScope s__law_some_body) := ⟨rfl, rfl, rfl, by decide +kernel, rfl, by decide +kernel, by decide +kernel⟩
theorem w__law_some_body (x : Fx K mg) (cdv : Value) (A : Around) (outer : List Env) (s : Shared) (H : Hp) (E : XK) (hr : Room 3 (A.deeper (envOfC "_law_some_body" (defScope s__law_some_body) s.heap.objs.size (He.ga K "_law_some_body") cdv))) :
    DSs (cxOf CX0 P w K mg base N__law_some_body "_law_some_body" (defScope s__law_some_body) (He.ga K "_law_some_body") cdv A outer s H E).nox noE (defBody s__law_some_body) (b__law_some_body (He.ga K)) := by
  have nd : N__law_some_body.Nodup := sc__law_some_body.nd
  exact (dss_cons (ds_set (i := 1) nd rfl (Or.inl rfl) (de_cal (k__law_of x) (hr.mono (by decide)) rfl (da_cons (de_var (pv 0)) (da_cons (de_lst (da_cons de_int (da_cons de_int (da_cons de_int (da_cons de_int (da_cons de_int (da_cons de_int (da_cons de_int (da_cons de_int (da_cons de_int (da_cons de_int da_nil))))))))))) da_nil))))
  (dss_cons (ds_if (dt_cmp op_gt cmpD_ok (de_var (pv 1)) de_int (by first | rfl | exact nomark _)) (dss_cons (ds_asg (de_tup (da_cons (de_cal (k__law_octet x) (hr.mono (by decide)) rfl (da_cons (de_var (pv 0)) da_nil)) (da_cons (de_cal (k__law_of x) (hr.mono (by decide)) rfl (da_cons (de_var (pv 0)) (da_cons (de_lst (da_cons de_int (da_cons de_int (da_cons de_int (da_cons de_int da_nil))))) da_nil))) da_nil))) (dg_any rfl (dgs_cons (dg_name (i := 2) nd rfl (Or.inr rfl)) (dgs_cons (dg_name (i := 3) nd rfl (Or.inr rfl)) dgs_nil))))
  (dss_one (ds_ret (de_comp (own := [("turn", 4)]) rfl nd (di_range1 rfl x.b_range (da_cons (de_var (pv 1)) da_nil)) (blkOk_by (N := N__law_some_body) (sc := defScope s__law_some_body) (by decide +kernel)) (fun _ _ _ _ _ => (dg_name (i := 4) nd rfl (Or.inl rfl))) (fun _ _ _ _ _ => dts_nil) (fun _ _ _ _ _ => (de_bin op_mod modD_ok (de_callTy call_int1 int1D_ok rfl x.b_int (by first | rfl | decide +kernel) (da_cons (de_bin op_addD addD_ok (de_var (pv 2)) (de_bin op_mulTD mulTD_ok (de_var (pv 4)) (de_var (pv 3)))) da_nil)) de_int)) (his := by decide))))) dss_nil)
  (dss_one (ds_ret (de_comp (own := [("turn", 4)]) rfl nd (di_range1 rfl x.b_range (da_cons (de_var (pv 1)) da_nil)) (blkOk_by (N := N__law_some_body) (sc := defScope s__law_some_body) (by decide +kernel)) (fun _ _ _ _ _ => (dg_name (i := 4) nd rfl (Or.inl rfl))) (fun _ _ _ _ _ => dts_nil) (fun _ _ _ _ _ => (de_cal (k__law_octet x) (hr.mono (by decide)) rfl (da_cons (de_var (pv 0)) da_nil))) (his := by decide))))))
theorem f__law_some_body (x : Fx K mg) : ∃ fd, FunD K "_law_some_body" "_law_some_body" (defArgs s__law_some_body) (defBody s__law_some_body) (defScope s__law_some_body) [] [] (He.ga K "_law_some_body") fd ∧ FnOk P w K mg base CX0 4 (He.ga K "_law_some_body") fd ["deal"] (spD K 1 (fn__law_some_body (He.ga K))) := by
  obtain ⟨fd, F⟩ := x.d__law_some_body
  exact ⟨fd, F, fn_ok F sc__law_some_body (w__law_some_body x)⟩
theorem k__law_some_body (x : Fx K mg) : Cal P w K mg base 4 "_law_some_body" 1 (fn__law_some_body (He.ga K)) := by
  obtain ⟨fd, F, O⟩ := f__law_some_body (P := P) (w := w) (base := base) x
  exact cal_of (ps := ["deal"]) x.g__law_some_body F (fun _ _ _ _ _ _ us hl => match us, hl with | [_], _ => rfl) O
/-! ### _law_sum -/
abbrev N__law_sum : List Str := ["octets", "at"]
theorem sc__law_sum : FnScope N__law_sum ["octets"] (defScope s__law_sum) := ⟨rfl, rfl, rfl, by decide +kernel, rfl, by decide +kernel, by decide +kernel⟩
theorem w__law_sum (x : Fx K mg) (cdv : Value) (A : Around) (outer : List Env) (s : Shared) (H : Hp) (E : XK) (hr : Room 0 (A.deeper (envOfC "_law_sum" (defScope s__law_sum) s.heap.objs.size (He.ga K "_law_sum") cdv))) :
    DSs (cxOf CX0 P w K mg base N__law_sum "_law_sum" (defScope s__law_sum) (He.ga K "_law_sum") cdv A outer s H E).nox noE (defBody s__law_sum) (b__law_sum (He.ga K)) := by
  have nd : N__law_sum.Nodup := sc__law_sum.nd
  exact (dss_one (ds_ret (de_bin op_mod modD_ok (de_callTy call_int1 int1D_ok rfl x.b_int (by first | rfl | decide +kernel) (da_cons (de_callB (cr_sum rfl) sumD_ok rfl x.b_sum (by first | rfl | decide +kernel) (da_cons (de_comp (own := [("at", 1)]) rfl nd (di_range1 rfl x.b_range (da_cons (de_lenV rfl x.b_len (pv 0)) da_nil)) (blkOk_by (N := N__law_sum) (sc := defScope s__law_sum) (by decide +kernel)) (fun _ _ _ _ _ => (dg_name (i := 1) nd rfl (Or.inl rfl))) (fun _ _ _ _ _ => dts_nil) (fun _ _ _ _ _ => (de_bin op_mulTD mulTD_ok (de_ixV (pv 0) (de_var (pv 1)) (fun _ _ => rfl)) (de_bin op_addD addD_ok (de_var (pv 1)) de_int))) (his := by decide)) da_nil)) da_nil)) de_int)))
theorem f__law_sum (x : Fx K mg) : ∃ fd, FunD K "_law_sum" "_law_sum" (defArgs s__law_sum) (defBody s__law_sum) (defScope s__law_sum) [] [] (He.ga K "_law_sum") fd ∧ FnOk P w K mg base CX0 1 (He.ga K "_law_sum") fd ["octets"] (spD K 1 (fn__law_sum (He.ga K))) := by
  obtain ⟨fd, F⟩ := x.d__law_sum
  exact ⟨fd, F, fn_ok F sc__law_sum (w__law_sum x)⟩
theorem k__law_sum (x : Fx K mg) : Cal P w K mg base 1 "_law_sum" 1 (fn__law_sum (He.ga K)) := by
  obtain ⟨fd, F, O⟩ := f__law_sum (P := P) (w := w) (base := base) x
  exact cal_of (ps := ["octets"]) x.g__law_sum F (fun _ _ _ _ _ _ us hl => match us, hl with | [_], _ => rfl) O
/-! ### _law_number_octets -/
abbrev N__law_number_octets : List Str := ["number", "found", "rest"]
theorem sc__law_number_octets : FnScope N__law_number_octets ["number"] (defScope s__law_number_octets) := ⟨rfl, rfl, rfl, by decide +kernel, rfl, by decide +kernel, by decide +kernel⟩
theorem w__law_number_octets (x : Fx K mg) (cdv : Value) (A : Around) (outer : List Env) (s : Shared) (H : Hp) (E : XK) (hr : Room 0 (A.deeper (envOfC "_law_number_octets" (defScope s__law_number_octets) s.heap.objs.size (He.ga K "_law_number_octets") cdv))) :
    DSs (cxOf CX0 P w K mg base N__law_number_octets "_law_number_octets" (defScope s__law_number_octets) (He.ga K "_law_number_octets") cdv A outer s H E).nox noE (defBody s__law_number_octets) (b__law_number_octets (He.ga K)) := by
  have nd : N__law_number_octets.Nodup := sc__law_number_octets.nd
  exact (dss_cons (ds_parO (i := 1) (j := 2) rfl nd rfl rfl (by decide) rfl rfl (de_lst da_nil) (de_var (pv 0)))
  (dss_cons (ds_while PassesOwn.never (dt_cmp op_gt cmpD_ok (de_var (pv 2)) de_int (by first | rfl | exact nomark _)) (dss_cons (ds_expr (de_mut PySem.F.plainAttrs_list PySem.F.slot_list_append PySem.F.type_list_append mt_append appendF_ok (pv 1) (da_cons (de_bin op_addD addD_ok (de_bin op_mod modD_ok (de_callTy call_int1 int1D_ok rfl x.b_int (by first | rfl | decide +kernel) (da_cons (de_var (pv 2)) da_nil)) de_int) de_int) da_nil)))
  (dss_one (ds_set (i := 2) nd rfl (Or.inl rfl) (de_bin op_fdivW fdivD_ok (de_var (pv 2)) de_int)))))
  (dss_one (ds_ret (de_bin op_addD addD_ok (de_var (pv 1)) (de_lst (da_cons (de_var (pv 2)) da_nil)))))))
theorem f__law_number_octets (x : Fx K mg) : ∃ fd, FunD K "_law_number_octets" "_law_number_octets" (defArgs s__law_number_octets) (defBody s__law_number_octets) (defScope s__law_number_octets) [] [] (He.ga K "_law_number_octets") fd ∧ FnOk P w K mg base CX0 1 (He.ga K "_law_number_octets") fd ["number"] (spD K 1 (fn__law_number_octets (He.ga K))) := by
  obtain ⟨fd, F⟩ := x.d__law_number_octets
  exact ⟨fd, F, fn_ok F sc__law_number_octets (w__law_number_octets x)⟩
theorem k__law_number_octets (x : Fx K mg) : Cal P w K mg base 1 "_law_number_octets" 1 (fn__law_number_octets (He.ga K)) := by
  obtain ⟨fd, F, O⟩ := f__law_number_octets (P := P) (w := w) (base := base) x
  exact cal_of (ps := ["number"]) x.g__law_number_octets F (fun _ _ _ _ _ _ us hl => match us, hl with | [_], _ => rfl) O
/-! ### _law_framed -/
abbrev N__law_framed : List Str := ["body", "total"]
theorem sc__law_framed : FnScope N__law_framed ["body"] (defScope s__law_framed) := ⟨rfl, rfl, rfl, by decide +kernel, rfl, by decide +kernel, by decide +kernel⟩
theorem w__law_framed (x : Fx K mg) (cdv : Value) (A : Around) (outer : List Env) (s : Shared) (H : Hp) (E : XK) (hr : Room 1 (A.deeper (envOfC "_law_framed" (defScope s__law_framed) s.heap.objs.size (He.ga K "_law_framed") cdv))) :
    DSs (cxOf CX0 P w K mg base N__law_framed "_law_framed" (defScope s__law_framed) (He.ga K "_law_framed") cdv A outer s H E).nox noE (defBody s__law_framed) (b__law_framed (He.ga K)) := by
  have nd : N__law_framed.Nodup := sc__law_framed.nd
  exact (dss_cons (ds_set (i := 1) nd rfl (Or.inl rfl) (de_cal (k__law_sum x) (hr.mono (by decide)) rfl (da_cons (de_var (pv 0)) da_nil)))
  (dss_one (ds_ret (de_bin op_addD addD_ok (de_bin op_addD addD_ok (de_cal (k__law_number_octets x) (hr.mono (by decide)) rfl (da_cons (de_lenV rfl x.b_len (pv 0)) da_nil)) (de_var (pv 0))) (de_lst (da_cons (de_bin op_mod modD_ok (de_callTy call_int1 int1D_ok rfl x.b_int (by first | rfl | decide +kernel) (da_cons (de_var (pv 1)) da_nil)) de_int) (da_cons (de_bin op_fdivW fdivD_ok (de_var (pv 1)) de_int) da_nil)))))))
theorem f__law_framed (x : Fx K mg) : ∃ fd, FunD K "_law_framed" "_law_framed" (defArgs s__law_framed) (defBody s__law_framed) (defScope s__law_framed) [] [] (He.ga K "_law_framed") fd ∧ FnOk P w K mg base CX0 2 (He.ga K "_law_framed") fd ["body"] (spD K 1 (fn__law_framed (He.ga K))) := by
  obtain ⟨fd, F⟩ := x.d__law_framed
  exact ⟨fd, F, fn_ok F sc__law_framed (w__law_framed x)⟩
theorem k__law_framed (x : Fx K mg) : Cal P w K mg base 2 "_law_framed" 1 (fn__law_framed (He.ga K)) := by
  obtain ⟨fd, F, O⟩ := f__law_framed (P := P) (w := w) (base := base) x
  exact cal_of (ps := ["body"]) x.g__law_framed F (fun _ _ _ _ _ _ us hl => match us, hl with | [_], _ => rfl) O
/-! ### _law_bent -/
abbrev N__law_bent : List Str := ["deal", "octets", "at", "sort"]
theorem sc__law_bent : FnScope N__law_bent ["deal", "octets"] (defScope s__law_bent) := ⟨rfl, rfl, rfl, by decide +kernel, rfl, by decide +kernel, by decide +kernel⟩
theorem w__law_bent (x : Fx K mg) (cdv : Value) (A : Around) (outer : List Env) (s : Shared) (H : Hp) (E : XK) (hr : Room 3 (A.deeper (envOfC "_law_bent" (defScope s__law_bent) s.heap.objs.size (He.ga K "_law_bent") cdv))) :
    DSs (cxOf CX0 P w K mg base N__law_bent "_law_bent" (defScope s__law_bent) (He.ga K "_law_bent") cdv A outer s H E).nox noE (defBody s__law_bent) (b__law_bent (He.ga K)) := by
  have nd : N__law_bent.Nodup := sc__law_bent.nd
  exact (dss_cons (ds_if (dt_cmp (op_eqD (Room.units hr)) eqD_ok (de_lenV rfl x.b_len (pv 1)) de_int (by first | rfl | exact nomark _)) (dss_one (ds_ret (de_varm (pv 1)))) dss_nil)
  (dss_cons (ds_parO (i := 2) (j := 3) rfl nd rfl rfl (by decide) rfl rfl (de_cal (k__law_any x) (hr.mono (by decide)) rfl (da_cons (de_var (pv 0)) (da_cons (de_lenV rfl x.b_len (pv 1)) da_nil))) (de_cal (k__law_any x) (hr.mono (by decide)) rfl (da_cons (de_var (pv 0)) (da_cons de_int da_nil))))
  (dss_cons (ds_if (dt_cmp (op_eqD (Room.units hr)) eqD_ok (de_var (pv 3)) de_int (by first | rfl | exact nomark _)) (dss_one (ds_ret (de_bin op_addD addD_ok (de_slice sl_D slD_ok (de_var (pv 1)) do_none (do_some (de_var (pv 2)))) (de_slice sl_D slD_ok (de_var (pv 1)) (do_some (de_bin op_addD addD_ok (de_var (pv 2)) de_int)) do_none)))) dss_nil)
  (dss_cons (ds_if (dt_cmp (op_eqD (Room.units hr)) eqD_ok (de_var (pv 3)) de_int (by first | rfl | exact nomark _)) (dss_one (ds_ret (de_bin op_addD addD_ok (de_bin op_addD addD_ok (de_slice sl_D slD_ok (de_var (pv 1)) do_none (do_some (de_var (pv 2)))) (de_lst (da_cons (de_cal (k__law_octet x) (hr.mono (by decide)) rfl (da_cons (de_var (pv 0)) da_nil)) da_nil))) (de_slice sl_D slD_ok (de_var (pv 1)) (do_some (de_var (pv 2))) do_none)))) dss_nil)
  (dss_one (ds_ret (de_bin op_addD addD_ok (de_bin op_addD addD_ok (de_slice sl_D slD_ok (de_var (pv 1)) do_none (do_some (de_var (pv 2)))) (de_lst (da_cons (de_bin op_mod modD_ok (de_callTy call_int1 int1D_ok rfl x.b_int (by first | rfl | decide +kernel) (da_cons (de_bin op_addD addD_ok (de_ixV (pv 1) (de_var (pv 2)) (fun _ _ => rfl)) (de_cal (k__law_of x) (hr.mono (by decide)) rfl (da_cons (de_var (pv 0)) (da_cons (de_lst (da_cons de_int (da_cons de_int (da_cons de_int (da_cons (de_bin op_addD addD_ok de_int (de_cal (k__law_any x) (hr.mono (by decide)) rfl (da_cons (de_var (pv 0)) (da_cons de_int da_nil)))) da_nil))))) da_nil)))) da_nil)) de_int) da_nil))) (de_slice sl_D slD_ok (de_var (pv 1)) (do_some (de_bin op_addD addD_ok (de_var (pv 2)) de_int)) do_none))))))))
theorem f__law_bent (x : Fx K mg) : ∃ fd, FunD K "_law_bent" "_law_bent" (defArgs s__law_bent) (defBody s__law_bent) (defScope s__law_bent) [] [] (He.ga K "_law_bent") fd ∧ FnOk P w K mg base CX0 4 (He.ga K "_law_bent") fd ["deal", "octets"] (spD K 2 (fn__law_bent (He.ga K))) := by
  obtain ⟨fd, F⟩ := x.d__law_bent
  exact ⟨fd, F, fn_ok F sc__law_bent (w__law_bent x)⟩
theorem k__law_bent (x : Fx K mg) : Cal P w K mg base 4 "_law_bent" 2 (fn__law_bent (He.ga K)) := by
  obtain ⟨fd, F, O⟩ := f__law_bent (P := P) (w := w) (base := base) x
  exact cal_of (ps := ["deal", "octets"]) x.g__law_bent F (fun _ _ _ _ _ _ us hl => match us, hl with | [_, _], _ => rfl) O
/-! ### behind_number -/
abbrev N_behind_number : List Str := ["octets", "at", "place"]
theorem sc_behind_number : FnScope N_behind_number ["octets", "at"] (defScope s_behind_number) := ⟨rfl, rfl, rfl, by decide +kernel, rfl, by decide +kernel, by decide +kernel⟩
theorem w_behind_number (x : Fx K mg) (cdv : Value) (A : Around) (outer : List Env) (s : Shared) (H : Hp) (E : XK) (hr : Room 0 (A.deeper (envOfC "behind_number" (defScope s_behind_number) s.heap.objs.size (He.ga K "behind_number") cdv))) :
    DSs (cxOf CX0 P w K mg base N_behind_number "behind_number" (defScope s_behind_number) (He.ga K "behind_number") cdv A outer s H E).nox noE (defBody s_behind_number) (b_behind_number (He.ga K)) := by
  have nd : N_behind_number.Nodup := sc_behind_number.nd
  exact (dss_cons (ds_if (dt_cmp op_lt cmpD_ok (de_var (pv 1)) de_int (by first | rfl | exact nomark _)) (dss_one (ds_ret de_non)) dss_nil)
  (dss_cons (ds_for PassesOwn.never rfl (di_range2 rfl x.b_range (da_cons (de_var (pv 1)) (da_cons (de_lenV rfl x.b_len (pv 0)) da_nil))) (dg_name (i := 2) nd rfl (Or.inl rfl)) (dss_one (ds_if (dt_cmp op_lt cmpD_ok (de_ixV (pv 0) (de_var (pv 2)) (fun _ _ => rfl)) (de_gint rfl x.c_BASE) (by first | rfl | exact nomark _)) (dss_one (ds_ret (de_bin op_addD addD_ok (de_var (pv 2)) de_int))) dss_nil)))
  (dss_one (ds_ret de_non))))
theorem f_behind_number (x : Fx K mg) : ∃ fd, FunD K "behind_number" "behind_number" (defArgs s_behind_number) (defBody s_behind_number) (defScope s_behind_number) [] [] (He.ga K "behind_number") fd ∧ FnOk P w K mg base CX0 1 (He.ga K "behind_number") fd ["octets", "at"] (spD K 2 (fn_behind_number (He.ga K))) := by
  obtain ⟨fd, F⟩ := x.d_behind_number
  exact ⟨fd, F, fn_ok F sc_behind_number (w_behind_number x)⟩
theorem k_behind_number (x : Fx K mg) : Cal P w K mg base 1 "behind_number" 2 (fn_behind_number (He.ga K)) := by
  obtain ⟨fd, F, O⟩ := f_behind_number (P := P) (w := w) (base := base) x
  exact cal_of (ps := ["octets", "at"]) x.g_behind_number F (fun _ _ _ _ _ _ us hl => match us, hl with | [_, _], _ => rfl) O
/-! ### number_of -/
abbrev N_number_of : List Str := ["figures", "row", "base", "pairs", "at"]
theorem sc_number_of : FnScope N_number_of ["figures"] (defScope s_number_of) := ⟨rfl, rfl, rfl, by decide +kernel, rfl, by decide +kernel, by decide +kernel⟩
theorem w_number_of (x : Fx K mg) (cdv : Value) (A : Around) (outer : List Env) (s : Shared) (H : Hp) (E : XK) (hr : Room 0 (A.deeper (envOfC "number_of" (defScope s_number_of) s.heap.objs.size (He.ga K "number_of") cdv))) :
    DSs (cxOf CX0 P w K mg base N_number_of "number_of" (defScope s_number_of) (He.ga K "number_of") cdv A outer s H E).nox noE (defBody s_number_of) (b_number_of (He.ga K)) := by
  have nd : N_number_of.Nodup := sc_number_of.nd
  exact (dss_cons (ds_asg (de_tup (da_cons (de_callTy call_list_of listD_ok rfl x.b_list (by first | rfl | decide +kernel) (da_cons (de_var (pv 0)) da_nil)) (da_cons (de_gint rfl x.c_BASE) da_nil))) (dg_any rfl (dgs_cons (dg_name (i := 1) nd rfl (Or.inr rfl)) (dgs_cons (dg_name (i := 2) nd rfl (Or.inr rfl)) dgs_nil))))
  (dss_cons (ds_while PassesOwn.never (dt_cmp op_gt cmpD_ok (de_lenV rfl x.b_len (pv 1)) de_int (by first | rfl | exact nomark _)) (dss_cons (ds_setComp (i := 3) (own := [("at", 4)]) rfl nd rfl rfl (sw_true rfl rfl rfl (by decide +kernel)) (di_range3 rfl x.b_range (da_cons de_int (da_cons (de_bin op_sub subD_ok (de_lenV rfl x.b_len (pv 1)) de_int) (da_cons de_int da_nil)))) (blkOk_by (N := N_number_of) (sc := defScope s_number_of) (by decide +kernel)) (fun _ _ _ _ _ => (dg_name (i := 4) nd rfl (Or.inl rfl))) (fun _ _ _ _ _ => dts_nil) (fun _ _ _ _ _ => (de_bin op_addD addD_ok (de_ixV (pv 1) (de_var (pv 4)) (fun _ _ => rfl)) (de_bin op_mulTD mulTD_ok (de_var (pv 2)) (de_ixV (pv 1) (de_bin op_addD addD_ok (de_var (pv 4)) de_int) (fun _ _ => rfl))))) (his := by decide))
  (dss_cons (ds_if (dt_cmp (op_eqD (Room.units hr)) eqD_ok (de_bin op_mod modD_ok (de_lenV rfl x.b_len (pv 1)) de_int) de_int (by first | rfl | exact nomark _)) (dss_one (ds_expr (de_mut PySem.F.plainAttrs_list PySem.F.slot_list_append PySem.F.type_list_append mt_append appendF_ok (pv 3) (da_cons (de_ixV (pv 1) (de_bin op_sub subD_ok (de_lenV rfl x.b_len (pv 1)) de_int) (fun _ _ => rfl)) da_nil)))) dss_nil)
  (dss_cons (ds_set (i := 1) nd rfl (Or.inr rfl) (de_var (pv 3)))
  (dss_one (ds_set (i := 2) nd rfl (Or.inr rfl) (de_bin op_mulTD mulTD_ok (de_var (pv 2)) (de_var (pv 2)))))))))
  (dss_one (ds_ret (de_ixV (pv 1) de_int (fun _ _ => rfl))))))
theorem f_number_of (x : Fx K mg) : ∃ fd, FunD K "number_of" "number_of" (defArgs s_number_of) (defBody s_number_of) (defScope s_number_of) [] [] (He.ga K "number_of") fd ∧ FnOk P w K mg base CX0 1 (He.ga K "number_of") fd ["figures"] (spD K 1 (fn_number_of (He.ga K))) := by
  obtain ⟨fd, F⟩ := x.d_number_of
  exact ⟨fd, F, fn_ok F sc_number_of (w_number_of x)⟩
theorem k_number_of (x : Fx K mg) : Cal P w K mg base 1 "number_of" 1 (fn_number_of (He.ga K)) := by
  obtain ⟨fd, F, O⟩ := f_number_of (P := P) (w := w) (base := base) x
  exact cal_of (ps := ["figures"]) x.g_number_of F (fun _ _ _ _ _ _ us hl => match us, hl with | [_], _ => rfl) O
/-! ### number_in -/
abbrev N_number_in : List Str := ["octets", "at", "end", "figures", "octet"]
theorem sc_number_in : FnScope N_number_in ["octets", "at"] (defScope s_number_in) := ⟨rfl, rfl, rfl, by decide +kernel, rfl, by decide +kernel, by decide +kernel⟩
theorem w_number_in (x : Fx K mg) (cdv : Value) (A : Around) (outer : List Env) (s : Shared) (H : Hp) (E : XK) (hr : Room 1 (A.deeper (envOfC "number_in" (defScope s_number_in) s.heap.objs.size (He.ga K "number_in") cdv))) :
    DSs (cxOf CX0 P w K mg base N_number_in "number_in" (defScope s_number_in) (He.ga K "number_in") cdv A outer s H E).nox noE (defBody s_number_in) (b_number_in (He.ga K)) := by
  have nd : N_number_in.Nodup := sc_number_in.nd
  exact (dss_cons (ds_set (i := 2) nd rfl (Or.inl rfl) (de_cal (k_behind_number x) (hr.mono (by decide)) rfl (da_cons (de_var (pv 0)) (da_cons (de_var (pv 1)) da_nil))))
  (dss_cons (ds_if (dt_w (dw_or (dt_cmp op_isP isD_ok (de_var (pv 2)) de_non (by first | rfl | exact nomark _)) (dw_or1 (dt_w (dw_and (dt_cmp op_gt cmpD_ok (de_bin op_sub subD_ok (de_var (pv 2)) (de_var (pv 1))) de_int (by first | rfl | exact nomark _)) (dw_and1 (dt_cmp (op_eqD (Room.units hr)) eqD_ok (de_ixV (pv 0) (de_bin op_sub subD_ok (de_var (pv 2)) de_int) (fun _ _ => rfl)) de_int (by first | rfl | exact nomark _)))))))) (dss_one (ds_ret de_non)) dss_nil)
  (dss_cons (ds_set (i := 3) nd rfl (Or.inl rfl) (de_bin op_addD addD_ok (de_comp (own := [("octet", 4)]) rfl nd (di_any (de_slice sl_D slD_ok (de_var (pv 0)) (do_some (de_var (pv 1))) (do_some (de_bin op_sub subD_ok (de_var (pv 2)) de_int)))) (blkOk_by (N := N_number_in) (sc := defScope s_number_in) (by decide +kernel)) (fun _ _ _ _ _ => (dg_name (i := 4) nd rfl (Or.inl rfl))) (fun _ _ _ _ _ => dts_nil) (fun _ _ _ _ _ => (de_bin op_sub subD_ok (de_var (pv 4)) (de_gint rfl x.c_BASE))) (his := by decide)) (de_lst (da_cons (de_ixV (pv 0) (de_bin op_sub subD_ok (de_var (pv 2)) de_int) (fun _ _ => rfl)) da_nil))))
  (dss_one (ds_ret (de_tup (da_cons (de_cal (k_number_of x) (hr.mono (by decide)) rfl (da_cons (de_var (pv 3)) da_nil)) (da_cons (de_var (pv 2)) da_nil))))))))
theorem f_number_in (x : Fx K mg) : ∃ fd, FunD K "number_in" "number_in" (defArgs s_number_in) (defBody s_number_in) (defScope s_number_in) [] [] (He.ga K "number_in") fd ∧ FnOk P w K mg base CX0 2 (He.ga K "number_in") fd ["octets", "at"] (spD K 2 (fn_number_in (He.ga K))) := by
  obtain ⟨fd, F⟩ := x.d_number_in
  exact ⟨fd, F, fn_ok F sc_number_in (w_number_in x)⟩
theorem k_number_in (x : Fx K mg) : Cal P w K mg base 2 "number_in" 2 (fn_number_in (He.ga K)) := by
  obtain ⟨fd, F, O⟩ := f_number_in (P := P) (w := w) (base := base) x
  exact cal_of (ps := ["octets", "at"]) x.g_number_in F (fun _ _ _ _ _ _ us hl => match us, hl with | [_, _], _ => rfl) O
/-! ### sum_of_octets -/
abbrev N_sum_of_octets : List Str := ["octets", "found", "at", "octet"]
theorem sc_sum_of_octets : FnScope N_sum_of_octets ["octets"] (defScope s_sum_of_octets) := ⟨rfl, rfl, rfl, by decide +kernel, rfl, by decide +kernel, by decide +kernel⟩
theorem w_sum_of_octets (x : Fx K mg) (cdv : Value) (A : Around) (outer : List Env) (s : Shared) (H : Hp) (E : XK) (hr : Room 0 (A.deeper (envOfC "sum_of_octets" (defScope s_sum_of_octets) s.heap.objs.size (He.ga K "sum_of_octets") cdv))) :
    DSs (cxOf CX0 P w K mg base N_sum_of_octets "sum_of_octets" (defScope s_sum_of_octets) (He.ga K "sum_of_octets") cdv A outer s H E).nox noE (defBody s_sum_of_octets) (b_sum_of_octets (He.ga K)) := by
  have nd : N_sum_of_octets.Nodup := sc_sum_of_octets.nd
  exact (dss_cons (ds_set (i := 1) nd rfl (Or.inl rfl) de_int)
  (dss_cons (ds_for PassesOwn.never rfl (di_enumA rfl x.b_enumerate (da_cons (de_var (pv 0)) da_nil)) (dg_any rfl (dgs_cons (dg_name (i := 2) nd rfl (Or.inl rfl)) (dgs_cons (dg_name (i := 3) nd rfl (Or.inl rfl)) dgs_nil))) (dss_one (ds_aug (i := 1) nd rfl (Or.inl rfl) (de_bin op_mulTD mulTD_ok (de_bin op_addD addD_ok (de_var (pv 2)) de_int) (de_var (pv 3))) iop_addD iaddD_ok)))
  (dss_one (ds_ret (de_bin op_mod modD_ok (de_var (pv 1)) (de_gint rfl x.c_PRIME))))))
theorem f_sum_of_octets (x : Fx K mg) : ∃ fd, FunD K "sum_of_octets" "sum_of_octets" (defArgs s_sum_of_octets) (defBody s_sum_of_octets) (defScope s_sum_of_octets) [] [] (He.ga K "sum_of_octets") fd ∧ FnOk P w K mg base CX0 1 (He.ga K "sum_of_octets") fd ["octets"] (spD K 1 (fn_sum_of_octets (He.ga K))) := by
  obtain ⟨fd, F⟩ := x.d_sum_of_octets
  exact ⟨fd, F, fn_ok F sc_sum_of_octets (w_sum_of_octets x)⟩
theorem k_sum_of_octets (x : Fx K mg) : Cal P w K mg base 1 "sum_of_octets" 1 (fn_sum_of_octets (He.ga K)) := by
  obtain ⟨fd, F, O⟩ := f_sum_of_octets (P := P) (w := w) (base := base) x
  exact cal_of (ps := ["octets"]) x.g_sum_of_octets F (fun _ _ _ _ _ _ us hl => match us, hl with | [_], _ => rfl) O
/-! ### sum_pair -/
abbrev N_sum_pair : List Str := ["body", "found"]
theorem sc_sum_pair : FnScope N_sum_pair ["body"] (defScope s_sum_pair) := ⟨rfl, rfl, rfl, by decide +kernel, rfl, by decide +kernel, by decide +kernel⟩
theorem w_sum_pair (x : Fx K mg) (cdv : Value) (A : Around) (outer : List Env) (s : Shared) (H : Hp) (E : XK) (hr : Room 1 (A.deeper (envOfC "sum_pair" (defScope s_sum_pair) s.heap.objs.size (He.ga K "sum_pair") cdv))) :
    DSs (cxOf CX0 P w K mg base N_sum_pair "sum_pair" (defScope s_sum_pair) (He.ga K "sum_pair") cdv A outer s H E).nox noE (defBody s_sum_pair) (b_sum_pair (He.ga K)) := by
  have nd : N_sum_pair.Nodup := sc_sum_pair.nd
  exact (dss_cons (ds_set (i := 1) nd rfl (Or.inl rfl) (de_cal (k_sum_of_octets x) (hr.mono (by decide)) rfl (da_cons (de_var (pv 0)) da_nil)))
  (dss_one (ds_ret (de_tup (da_cons (de_bin op_mod modD_ok (de_var (pv 1)) (de_gint rfl x.c_OCTET)) (da_cons (de_bin op_fdivW fdivD_ok (de_var (pv 1)) (de_gint rfl x.c_OCTET)) da_nil))))))
theorem f_sum_pair (x : Fx K mg) : ∃ fd, FunD K "sum_pair" "sum_pair" (defArgs s_sum_pair) (defBody s_sum_pair) (defScope s_sum_pair) [] [] (He.ga K "sum_pair") fd ∧ FnOk P w K mg base CX0 2 (He.ga K "sum_pair") fd ["body"] (spD K 1 (fn_sum_pair (He.ga K))) := by
  obtain ⟨fd, F⟩ := x.d_sum_pair
  exact ⟨fd, F, fn_ok F sc_sum_pair (w_sum_pair x)⟩
theorem k_sum_pair (x : Fx K mg) : Cal P w K mg base 2 "sum_pair" 1 (fn_sum_pair (He.ga K)) := by
  obtain ⟨fd, F, O⟩ := f_sum_pair (P := P) (w := w) (base := base) x
  exact cal_of (ps := ["body"]) x.g_sum_pair F (fun _ _ _ _ _ _ us hl => match us, hl with | [_], _ => rfl) O
/-! ### frame_at -/
abbrev N_frame_at : List Str := ["octets", "at", "told", "end", "body"]
theorem sc_frame_at : FnScope N_frame_at ["octets", "at"] (defScope s_frame_at) := ⟨rfl, rfl, rfl, by decide +kernel, rfl, by decide +kernel, by decide +kernel⟩
theorem w_frame_at (x : Fx K mg) (cdv : Value) (A : Around) (outer : List Env) (s : Shared) (H : Hp) (E : XK) (hr : Room 2 (A.deeper (envOfC "frame_at" (defScope s_frame_at) s.heap.objs.size (He.ga K "frame_at") cdv))) :
    DSs (cxOf CX0 P w K mg base N_frame_at "frame_at" (defScope s_frame_at) (He.ga K "frame_at") cdv A outer s H E).nox noE (defBody s_frame_at) (b_frame_at (He.ga K)) := by
  have nd : N_frame_at.Nodup := sc_frame_at.nd
  exact (dss_cons (ds_set (i := 2) nd rfl (Or.inl rfl) (de_cal (k_number_in x) (hr.mono (by decide)) rfl (da_cons (de_var (pv 0)) (da_cons (de_var (pv 1)) da_nil))))
  (dss_cons (ds_if (dt_w (dw_or (dt_cmp op_isP isD_ok (de_var (pv 2)) de_non (by first | rfl | exact nomark _)) (dw_or1 (dt_cmp op_gt cmpD_ok (de_bin op_addD addD_ok (de_ixV (pv 2) de_int (fun _ _ => rfl)) (de_gint rfl x.c_SUM_OCTETS)) (de_bin op_sub subD_ok (de_lenV rfl x.b_len (pv 0)) (de_ixV (pv 2) de_int (fun _ _ => rfl))) (by first | rfl | exact nomark _))))) (dss_one (ds_ret de_non)) dss_nil)
  (dss_cons (ds_set (i := 3) nd rfl (Or.inl rfl) (de_bin op_addD addD_ok (de_ixV (pv 2) de_int (fun _ _ => rfl)) (de_ixV (pv 2) de_int (fun _ _ => rfl))))
  (dss_cons (ds_set (i := 4) nd rfl (Or.inl rfl) (de_slice sl_D slD_ok (de_var (pv 0)) (do_some (de_ixV (pv 2) de_int (fun _ _ => rfl))) (do_some (de_var (pv 3)))))
  (dss_cons (ds_if (dt_cmp (op_neD (Room.units hr)) neD_ok (de_slice sl_D slD_ok (de_var (pv 0)) (do_some (de_var (pv 3))) (do_some (de_bin op_addD addD_ok (de_var (pv 3)) (de_gint rfl x.c_SUM_OCTETS)))) (de_cal (k_sum_pair x) (hr.mono (by decide)) rfl (da_cons (de_var (pv 4)) da_nil)) (by first | rfl | exact nomark _)) (dss_one (ds_ret de_non)) dss_nil)
  (dss_one (ds_ret (de_tup (da_cons (de_var (pv 4)) (da_cons (de_bin op_addD addD_ok (de_var (pv 3)) (de_gint rfl x.c_SUM_OCTETS)) da_nil))))))))))
theorem f_frame_at (x : Fx K mg) : ∃ fd, FunD K "frame_at" "frame_at" (defArgs s_frame_at) (defBody s_frame_at) (defScope s_frame_at) [] [] (He.ga K "frame_at") fd ∧ FnOk P w K mg base CX0 3 (He.ga K "frame_at") fd ["octets", "at"] (spD K 2 (fn_frame_at (He.ga K))) := by
  obtain ⟨fd, F⟩ := x.d_frame_at
  exact ⟨fd, F, fn_ok F sc_frame_at (w_frame_at x)⟩
theorem k_frame_at (x : Fx K mg) : Cal P w K mg base 3 "frame_at" 2 (fn_frame_at (He.ga K)) := by
  obtain ⟨fd, F, O⟩ := f_frame_at (P := P) (w := w) (base := base) x
  exact cal_of (ps := ["octets", "at"]) x.g_frame_at F (fun _ _ _ _ _ _ us hl => match us, hl with | [_, _], _ => rfl) O
/-! ### frames -/
abbrev N_frames : List Str := ["octets", "bodies", "place", "told"]
theorem sc_frames : FnScope N_frames ["octets"] (defScope s_frames) := ⟨rfl, rfl, rfl, by decide +kernel, rfl, by decide +kernel, by decide +kernel⟩
theorem w_frames (x : Fx K mg) (cdv : Value) (A : Around) (outer : List Env) (s : Shared) (H : Hp) (E : XK) (hr : Room 3 (A.deeper (envOfC "frames" (defScope s_frames) s.heap.objs.size (He.ga K "frames") cdv))) :
    DSs (cxOf CX0 P w K mg base N_frames "frames" (defScope s_frames) (He.ga K "frames") cdv A outer s H E).nox noE (defBody s_frames) (b_frames (He.ga K)) := by
  have nd : N_frames.Nodup := sc_frames.nd
  exact (dss_cons (ds_set (i := 0) nd rfl (Or.inl rfl) (de_callTy call_tuple_of tupleD_ok rfl x.b_tuple (by first | rfl | decide +kernel) (da_cons (de_var (pv 0)) da_nil)))
  (dss_cons (ds_parO (i := 1) (j := 2) rfl nd rfl rfl (by decide) rfl rfl (de_lst da_nil) de_int)
  (dss_cons (ds_set (i := 3) nd rfl (Or.inl rfl) (de_cal (k_frame_at x) (hr.mono (by decide)) rfl (da_cons (de_var (pv 0)) (da_cons de_int da_nil))))
  (dss_cons (ds_while PassesOwn.never (dt_cmp op_isNP isnD_ok (de_var (pv 3)) de_non (by first | rfl | exact nomark _)) (dss_cons (ds_expr (de_mut PySem.F.plainAttrs_list PySem.F.slot_list_append PySem.F.type_list_append mt_append appendF_ok (pv 1) (da_cons (de_ixV (pv 3) de_int (fun _ _ => rfl)) da_nil)))
  (dss_cons (ds_set (i := 2) nd rfl (Or.inl rfl) (de_ixV (pv 3) de_int (fun _ _ => rfl)))
  (dss_one (ds_set (i := 3) nd rfl (Or.inl rfl) (de_cal (k_frame_at x) (hr.mono (by decide)) rfl (da_cons (de_var (pv 0)) (da_cons (de_var (pv 2)) da_nil))))))))
  (dss_one (ds_ret (de_tup (da_cons (de_callTy call_tuple_of tupleD_ok rfl x.b_tuple (by first | rfl | decide +kernel) (da_cons (de_var (pv 1)) da_nil)) (da_cons (de_var (pv 2)) da_nil)))))))))
theorem f_frames (x : Fx K mg) : ∃ fd, FunD K "frames" "frames" (defArgs s_frames) (defBody s_frames) (defScope s_frames) [] [] (He.ga K "frames") fd ∧ FnOk P w K mg base CX0 4 (He.ga K "frames") fd ["octets"] (spD K 1 (fn_frames (He.ga K))) := by
  obtain ⟨fd, F⟩ := x.d_frames
  exact ⟨fd, F, fn_ok F sc_frames (w_frames x)⟩
theorem k_frames (x : Fx K mg) : Cal P w K mg base 4 "frames" 1 (fn_frames (He.ga K)) := by
  obtain ⟨fd, F, O⟩ := f_frames (P := P) (w := w) (base := base) x
  exact cal_of (ps := ["octets"]) x.g_frames F (fun _ _ _ _ _ _ us hl => match us, hl with | [_], _ => rfl) O
theorem kk_frames_0_octets (x : Fx K mg) : KCal P w K mg base 4 "frames" 0 ["octets"] [0] (fn_frames (He.ga K)) := by
  obtain ⟨fd, F, O⟩ := f_frames (P := P) (w := w) (base := base) x
  exact kcal_of (ps := ["octets"]) x.g_frames F rfl (by decide) (fun _ _ _ _ _ _ us ws h1 h2 => match us, ws, h1, h2 with | [], [_], _, _ => rfl) O
/-! ### _law_number_at -/
abbrev N__law_number_at : List Str := ["octets", "at", "number", "base", "place"]
theorem sc__law_number_at : FnScope N__law_number_at ["octets", "at"] (defScope s__law_number_at) := ⟨rfl, rfl, rfl, by decide +kernel, rfl, by decide +kernel, by decide +kernel⟩
theorem w__law_number_at (x : Fx K mg) (cdv : Value) (A : Around) (outer : List Env) (s : Shared) (H : Hp) (E : XK) (hr : Room 0 (A.deeper (envOfC "_law_number_at" (defScope s__law_number_at) s.heap.objs.size (He.ga K "_law_number_at") cdv))) :
    DSs (cxOf CX0 P w K mg base N__law_number_at "_law_number_at" (defScope s__law_number_at) (He.ga K "_law_number_at") cdv A outer s H E).nox noE (defBody s__law_number_at) (b__law_number_at (He.ga K)) := by
  have nd : N__law_number_at.Nodup := sc__law_number_at.nd
  exact (dss_cons (ds_par3 (i := 2) (j := 3) (l := 4) rfl nd rfl rfl rfl (by decide) (by decide) (by decide) rfl rfl rfl de_int de_int (de_var (pv 1)))
  (dss_cons (ds_if (dt_cmp op_lt cmpD_ok (de_var (pv 1)) de_int (by first | rfl | exact nomark _)) (dss_one (ds_ret de_non)) dss_nil)
  (dss_cons (ds_while PassesOwn.never (dt_w (dw_and (dt_cmp op_lt cmpD_ok (de_var (pv 4)) (de_lenV rfl x.b_len (pv 0)) (by first | rfl | exact nomark _)) (dw_and1 (dt_cmp op_gt cmpD_ok (de_ixV (pv 0) (de_var (pv 4)) (fun _ _ => rfl)) de_int (by first | rfl | exact nomark _))))) (dss_one (ds_par3 (i := 2) (j := 3) (l := 4) rfl nd rfl rfl rfl (by decide) (by decide) (by decide) rfl rfl rfl (de_bin op_addD addD_ok (de_var (pv 2)) (de_bin op_mulTD mulTD_ok (de_var (pv 3)) (de_bin op_sub subD_ok (de_ixV (pv 0) (de_var (pv 4)) (fun _ _ => rfl)) de_int))) (de_bin op_mulTD mulTD_ok (de_var (pv 3)) de_int) (de_bin op_addD addD_ok (de_var (pv 4)) de_int))))
  (dss_cons (ds_if (dt_w (dw_or (dt_cmp op_ge cmpD_ok (de_var (pv 4)) (de_lenV rfl x.b_len (pv 0)) (by first | rfl | exact nomark _)) (dw_or1 (dt_w (dw_and (dt_cmp op_gt cmpD_ok (de_var (pv 4)) (de_var (pv 1)) (by first | rfl | exact nomark _)) (dw_and1 (dt_cmp (op_eqD (Room.units hr)) eqD_ok (de_ixV (pv 0) (de_var (pv 4)) (fun _ _ => rfl)) de_int (by first | rfl | exact nomark _)))))))) (dss_one (ds_ret de_non)) dss_nil)
  (dss_one (ds_ret (de_tup (da_cons (de_bin op_addD addD_ok (de_var (pv 2)) (de_bin op_mulTD mulTD_ok (de_var (pv 3)) (de_ixV (pv 0) (de_var (pv 4)) (fun _ _ => rfl)))) (da_cons (de_bin op_addD addD_ok (de_var (pv 4)) de_int) da_nil)))))))))
theorem f__law_number_at (x : Fx K mg) : ∃ fd, FunD K "_law_number_at" "_law_number_at" (defArgs s__law_number_at) (defBody s__law_number_at) (defScope s__law_number_at) [] [] (He.ga K "_law_number_at") fd ∧ FnOk P w K mg base CX0 1 (He.ga K "_law_number_at") fd ["octets", "at"] (spD K 2 (fn__law_number_at (He.ga K))) := by
  obtain ⟨fd, F⟩ := x.d__law_number_at
  exact ⟨fd, F, fn_ok F sc__law_number_at (w__law_number_at x)⟩
theorem k__law_number_at (x : Fx K mg) : Cal P w K mg base 1 "_law_number_at" 2 (fn__law_number_at (He.ga K)) := by
  obtain ⟨fd, F, O⟩ := f__law_number_at (P := P) (w := w) (base := base) x
  exact cal_of (ps := ["octets", "at"]) x.g__law_number_at F (fun _ _ _ _ _ _ us hl => match us, hl with | [_, _], _ => rfl) O
/-! ### _law_frames_in -/
abbrev N__law_frames_in : List Str := ["octets", "bodies", "place", "turn", "told", "body", "behind", "total"]
theorem sc__law_frames_in : FnScope N__law_frames_in ["octets"] (defScope s__law_frames_in) := ⟨rfl, rfl, rfl, by decide +kernel, rfl, by decide +kernel, by decide +kernel⟩
theorem w__law_frames_in (x : Fx K mg) (cdv : Value) (A : Around) (outer : List Env) (s : Shared) (H : Hp) (E : XK) (hr : Room 1 (A.deeper (envOfC "_law_frames_in" (defScope s__law_frames_in) s.heap.objs.size (He.ga K "_law_frames_in") cdv))) :
    DSs (cxOf CX0 P w K mg base N__law_frames_in "_law_frames_in" (defScope s__law_frames_in) (He.ga K "_law_frames_in") cdv A outer s H E).nox noE (defBody s__law_frames_in) (b__law_frames_in (He.ga K)) := by
  have nd : N__law_frames_in.Nodup := sc__law_frames_in.nd
  exact (dss_cons (ds_parO (i := 1) (j := 2) rfl nd rfl rfl (by decide) rfl rfl (de_lst da_nil) de_int)
  (dss_cons (ds_for PassesOwn.never rfl (di_range1 rfl x.b_range (da_cons (de_bin op_addD addD_ok (de_lenV rfl x.b_len (pv 0)) de_int) da_nil)) (dg_name (i := 3) nd rfl (Or.inl rfl)) (dss_cons (ds_set (i := 4) nd rfl (Or.inl rfl) (de_cal (k__law_number_at x) (hr.mono (by decide)) rfl (da_cons (de_var (pv 0)) (da_cons (de_var (pv 2)) da_nil))))
  (dss_cons (ds_if (dt_w (dw_or (dt_cmp op_isP isD_ok (de_var (pv 4)) de_non (by first | rfl | exact nomark _)) (dw_or1 (dt_cmp op_gt cmpD_ok (de_bin op_addD addD_ok (de_ixV (pv 4) de_int (fun _ _ => rfl)) de_int) (de_bin op_sub subD_ok (de_lenV rfl x.b_len (pv 0)) (de_ixV (pv 4) de_int (fun _ _ => rfl))) (by first | rfl | exact nomark _))))) (dss_one (ds_ret (de_tup (da_cons (de_var (pv 1)) (da_cons (de_var (pv 2)) da_nil))))) dss_nil)
  (dss_cons (ds_parO (i := 5) (j := 6) rfl nd rfl rfl (by decide) rfl rfl (de_slice sl_D slD_ok (de_var (pv 0)) (do_some (de_ixV (pv 4) de_int (fun _ _ => rfl))) (do_some (de_bin op_addD addD_ok (de_ixV (pv 4) de_int (fun _ _ => rfl)) (de_ixV (pv 4) de_int (fun _ _ => rfl))))) (de_bin op_addD addD_ok (de_ixV (pv 4) de_int (fun _ _ => rfl)) (de_ixV (pv 4) de_int (fun _ _ => rfl))))
  (dss_cons (ds_set (i := 7) nd rfl (Or.inl rfl) (de_cal (k__law_sum x) (hr.mono (by decide)) rfl (da_cons (de_var (pv 5)) da_nil)))
  (dss_cons (ds_if (dt_w (dw_or (dt_cmp (op_neD (Room.units hr)) neD_ok (de_ixV (pv 0) (de_var (pv 6)) (fun _ _ => rfl)) (de_bin op_mod modD_ok (de_callTy call_int1 int1D_ok rfl x.b_int (by first | rfl | decide +kernel) (da_cons (de_var (pv 7)) da_nil)) de_int) (by first | rfl | exact nomark _)) (dw_or1 (dt_cmp (op_neD (Room.units hr)) neD_ok (de_ixV (pv 0) (de_bin op_addD addD_ok (de_var (pv 6)) de_int) (fun _ _ => rfl)) (de_bin op_fdivW fdivD_ok (de_var (pv 7)) de_int) (by first | rfl | exact nomark _))))) (dss_one (ds_ret (de_tup (da_cons (de_var (pv 1)) (da_cons (de_var (pv 2)) da_nil))))) dss_nil)
  (dss_one (ds_parO (i := 1) (j := 2) rfl nd rfl rfl (by decide) rfl rfl (de_bin op_addD addD_ok (de_var (pv 1)) (de_lst (da_cons (de_var (pv 5)) da_nil))) (de_bin op_addD addD_ok (de_var (pv 6)) de_int)))))))))
  (dss_one (ds_ret (de_tup (da_cons (de_var (pv 1)) (da_cons (de_var (pv 2)) da_nil)))))))
theorem f__law_frames_in (x : Fx K mg) : ∃ fd, FunD K "_law_frames_in" "_law_frames_in" (defArgs s__law_frames_in) (defBody s__law_frames_in) (defScope s__law_frames_in) [] [] (He.ga K "_law_frames_in") fd ∧ FnOk P w K mg base CX0 2 (He.ga K "_law_frames_in") fd ["octets"] (spD K 1 (fn__law_frames_in (He.ga K))) := by
  obtain ⟨fd, F⟩ := x.d__law_frames_in
  exact ⟨fd, F, fn_ok F sc__law_frames_in (w__law_frames_in x)⟩
theorem k__law_frames_in (x : Fx K mg) : Cal P w K mg base 2 "_law_frames_in" 1 (fn__law_frames_in (He.ga K)) := by
  obtain ⟨fd, F, O⟩ := f__law_frames_in (P := P) (w := w) (base := base) x
  exact cal_of (ps := ["octets"]) x.g__law_frames_in F (fun _ _ _ _ _ _ us hl => match us, hl with | [_], _ => rfl) O
/-! ### _law_due -/
abbrev N__law_due : List Str := ["octets", "bodies", "place", "body"]
theorem sc__law_due : FnScope N__law_due ["octets"] (defScope s__law_due) := ⟨rfl, rfl, rfl, by decide +kernel, rfl, by decide +kernel, by decide +kernel⟩
theorem w__law_due (x : Fx K mg) (cdv : Value) (A : Around) (outer : List Env) (s : Shared) (H : Hp) (E : XK) (hr : Room 2 (A.deeper (envOfC "_law_due" (defScope s__law_due) s.heap.objs.size (He.ga K "_law_due") cdv))) :
    DSs (cxOf CX0 P w K mg base N__law_due "_law_due" (defScope s__law_due) (He.ga K "_law_due") cdv A outer s H E).nox noE (defBody s__law_due) (b__law_due (He.ga K)) := by
  have nd : N__law_due.Nodup := sc__law_due.nd
  exact (dss_cons (ds_asg (de_cal (k__law_frames_in x) (hr.mono (by decide)) rfl (da_cons (de_var (pv 0)) da_nil)) (dg_any rfl (dgs_cons (dg_name (i := 1) nd rfl (Or.inl rfl)) (dgs_cons (dg_name (i := 2) nd rfl (Or.inl rfl)) dgs_nil))))
  (dss_one (ds_ret (de_tup (da_cons (de_callTy call_tuple_of tupleD_ok rfl x.b_tuple (by first | rfl | decide +kernel) (da_cons (de_comp (own := [("body", 3)]) rfl nd (di_any (de_var (pv 1))) (blkOk_by (N := N__law_due) (sc := defScope s__law_due) (by decide +kernel)) (fun _ _ _ _ _ => (dg_name (i := 3) nd rfl (Or.inl rfl))) (fun _ _ _ _ _ => dts_nil) (fun _ _ _ _ _ => (de_callTy call_tuple_of tupleD_ok rfl x.b_tuple (by first | rfl | decide +kernel) (da_cons (de_var (pv 3)) da_nil))) (his := by decide)) da_nil)) (da_cons (de_var (pv 2)) da_nil))))))
theorem f__law_due (x : Fx K mg) : ∃ fd, FunD K "_law_due" "_law_due" (defArgs s__law_due) (defBody s__law_due) (defScope s__law_due) [] [] (He.ga K "_law_due") fd ∧ FnOk P w K mg base CX0 3 (He.ga K "_law_due") fd ["octets"] (spD K 1 (fn__law_due (He.ga K))) := by
  obtain ⟨fd, F⟩ := x.d__law_due
  exact ⟨fd, F, fn_ok F sc__law_due (w__law_due x)⟩
theorem k__law_due (x : Fx K mg) : Cal P w K mg base 3 "_law_due" 1 (fn__law_due (He.ga K)) := by
  obtain ⟨fd, F, O⟩ := f__law_due (P := P) (w := w) (base := base) x
  exact cal_of (ps := ["octets"]) x.g__law_due F (fun _ _ _ _ _ _ us hl => match us, hl with | [_], _ => rfl) O
/-! ### octets_of_number -/
abbrev N_octets_of_number : List Str := ["number", "found", "rest"]
theorem sc_octets_of_number : FnScope N_octets_of_number ["number"] (defScope s_octets_of_number) := ⟨rfl, rfl, rfl, by decide +kernel, rfl, by decide +kernel, by decide +kernel⟩
theorem w_octets_of_number (x : Fx K mg) (cdv : Value) (A : Around) (outer : List Env) (s : Shared) (H : Hp) (E : XK) (hr : Room 0 (A.deeper (envOfC "octets_of_number" (defScope s_octets_of_number) s.heap.objs.size (He.ga K "octets_of_number") cdv))) :
    DSs (cxOf CX0 P w K mg base N_octets_of_number "octets_of_number" (defScope s_octets_of_number) (He.ga K "octets_of_number") cdv A outer s H E).nox noE (defBody s_octets_of_number) (b_octets_of_number (He.ga K)) := by
  have nd : N_octets_of_number.Nodup := sc_octets_of_number.nd
  exact (dss_cons (ds_set (i := 1) nd rfl (Or.inl rfl) (de_lst da_nil))
  (dss_cons (ds_set (i := 2) nd rfl (Or.inl rfl) (de_var (pv 0)))
  (dss_cons (ds_while PassesOwn.never (dt_cmp op_ge cmpD_ok (de_var (pv 2)) (de_gint rfl x.c_BASE) (by first | rfl | exact nomark _)) (dss_cons (ds_expr (de_mut PySem.F.plainAttrs_list PySem.F.slot_list_append PySem.F.type_list_append mt_append appendF_ok (pv 1) (da_cons (de_bin op_addD addD_ok (de_gint rfl x.c_BASE) (de_bin op_mod modD_ok (de_var (pv 2)) (de_gint rfl x.c_BASE))) da_nil)))
  (dss_one (ds_set (i := 2) nd rfl (Or.inl rfl) (de_bin op_fdivW fdivD_ok (de_var (pv 2)) (de_gint rfl x.c_BASE))))))
  (dss_cons (ds_expr (de_mut PySem.F.plainAttrs_list PySem.F.slot_list_append PySem.F.type_list_append mt_append appendF_ok (pv 1) (da_cons (de_var (pv 2)) da_nil)))
  (dss_one (ds_ret (de_callTy call_tuple_of tupleD_ok rfl x.b_tuple (by first | rfl | decide +kernel) (da_cons (de_var (pv 1)) da_nil))))))))
theorem f_octets_of_number (x : Fx K mg) : ∃ fd, FunD K "octets_of_number" "octets_of_number" (defArgs s_octets_of_number) (defBody s_octets_of_number) (defScope s_octets_of_number) [] [] (He.ga K "octets_of_number") fd ∧ FnOk P w K mg base CX0 1 (He.ga K "octets_of_number") fd ["number"] (spD K 1 (fn_octets_of_number (He.ga K))) := by
  obtain ⟨fd, F⟩ := x.d_octets_of_number
  exact ⟨fd, F, fn_ok F sc_octets_of_number (w_octets_of_number x)⟩
theorem k_octets_of_number (x : Fx K mg) : Cal P w K mg base 1 "octets_of_number" 1 (fn_octets_of_number (He.ga K)) := by
  obtain ⟨fd, F, O⟩ := f_octets_of_number (P := P) (w := w) (base := base) x
  exact cal_of (ps := ["number"]) x.g_octets_of_number F (fun _ _ _ _ _ _ us hl => match us, hl with | [_], _ => rfl) O
/-! ### number_octets -/
abbrev N_number_octets : List Str := ["number"]
theorem sc_number_octets : FnScope N_number_octets ["number"] (defScope s_number_octets) := ⟨rfl, rfl, rfl, by decide +kernel, rfl, by decide +kernel, by decide +kernel⟩
theorem w_number_octets (x : Fx K mg) (cdv : Value) (A : Around) (outer : List Env) (s : Shared) (H : Hp) (E : XK) (hr : Room 1 (A.deeper (envOfC "number_octets" (defScope s_number_octets) s.heap.objs.size (He.ga K "number_octets") cdv))) :
    DSs (cxOf CX0 P w K mg base N_number_octets "number_octets" (defScope s_number_octets) (He.ga K "number_octets") cdv A outer s H E).nox noE (defBody s_number_octets) (b_number_octets (He.ga K)) := by
  have nd : N_number_octets.Nodup := sc_number_octets.nd
  exact (dss_one (ds_ret (de_cal (k_octets_of_number x) (hr.mono (by decide)) rfl (da_cons (de_var (pv 0)) da_nil))))
theorem f_number_octets (x : Fx K mg) : ∃ fd, FunD K "number_octets" "number_octets" (defArgs s_number_octets) (defBody s_number_octets) (defScope s_number_octets) [] [] (He.ga K "number_octets") fd ∧ FnOk P w K mg base CX0 2 (He.ga K "number_octets") fd ["number"] (spD K 1 (fn_number_octets (He.ga K))) := by
  obtain ⟨fd, F⟩ := x.d_number_octets
  exact ⟨fd, F, fn_ok F sc_number_octets (w_number_octets x)⟩
theorem k_number_octets (x : Fx K mg) : Cal P w K mg base 2 "number_octets" 1 (fn_number_octets (He.ga K)) := by
  obtain ⟨fd, F, O⟩ := f_number_octets (P := P) (w := w) (base := base) x
  exact cal_of (ps := ["number"]) x.g_number_octets F (fun _ _ _ _ _ _ us hl => match us, hl with | [_], _ => rfl) O
/-! ### frame -/
abbrev N_frame : List Str := ["body"]
theorem sc_frame : FnScope N_frame ["body"] (defScope s_frame) := ⟨rfl, rfl, rfl, by decide +kernel, rfl, by decide +kernel, by decide +kernel⟩
theorem w_frame (x : Fx K mg) (cdv : Value) (A : Around) (outer : List Env) (s : Shared) (H : Hp) (E : XK) (hr : Room 2 (A.deeper (envOfC "frame" (defScope s_frame) s.heap.objs.size (He.ga K "frame") cdv))) :
    DSs (cxOf CX0 P w K mg base N_frame "frame" (defScope s_frame) (He.ga K "frame") cdv A outer s H E).nox noE (defBody s_frame) (b_frame (He.ga K)) := by
  have nd : N_frame.Nodup := sc_frame.nd
  exact (dss_one (ds_ret (de_bin op_addD addD_ok (de_bin op_addD addD_ok (de_cal (k_number_octets x) (hr.mono (by decide)) rfl (da_cons (de_lenV rfl x.b_len (pv 0)) da_nil)) (de_callTy call_tuple_of tupleD_ok rfl x.b_tuple (by first | rfl | decide +kernel) (da_cons (de_var (pv 0)) da_nil))) (de_cal (k_sum_pair x) (hr.mono (by decide)) rfl (da_cons (de_var (pv 0)) da_nil)))))
theorem f_frame (x : Fx K mg) : ∃ fd, FunD K "frame" "frame" (defArgs s_frame) (defBody s_frame) (defScope s_frame) [] [] (He.ga K "frame") fd ∧ FnOk P w K mg base CX0 3 (He.ga K "frame") fd ["body"] (spD K 1 (fn_frame (He.ga K))) := by
  obtain ⟨fd, F⟩ := x.d_frame
  exact ⟨fd, F, fn_ok F sc_frame (w_frame x)⟩
theorem k_frame (x : Fx K mg) : Cal P w K mg base 3 "frame" 1 (fn_frame (He.ga K)) := by
  obtain ⟨fd, F, O⟩ := f_frame (P := P) (w := w) (base := base) x
  exact cal_of (ps := ["body"]) x.g_frame F (fun _ _ _ _ _ _ us hl => match us, hl with | [_], _ => rfl) O
theorem kk_frame_0_body (x : Fx K mg) : KCal P w K mg base 3 "frame" 0 ["body"] [0] (fn_frame (He.ga K)) := by
  obtain ⟨fd, F, O⟩ := f_frame (P := P) (w := w) (base := base) x
  exact kcal_of (ps := ["body"]) x.g_frame F rfl (by decide) (fun _ _ _ _ _ _ us ws h1 h2 => match us, ws, h1, h2 with | [], [_], _, _ => rfl) O
/-! ### law -/
abbrev N_law : List Str := ["script", "deal", "pairs", "rows", "turn", "body", "row", "octets", "many", "ahead", "last", "cut", "bent", "wrong", "mixed", "one", "total", "number"]
theorem sc_law : FnScope N_law ["script"] (defScope s_law) := ⟨rfl, rfl, rfl, by decide +kernel, rfl, by decide +kernel, by decide +kernel⟩
theorem w_law (x : Fx K mg) (cdv : Value) (A : Around) (outer : List Env) (s : Shared) (H : Hp) (E : XK) (hr : Room 4 (A.deeper (envOfC "law" (defScope s_law) s.heap.objs.size (He.ga K "law") cdv))) :
    PSs (cxOf CX0 P w K mg base N_law "law" (defScope s_law) (He.ga K "law") cdv A outer s H E).nox (defBody s_law) (tLaw K (dO (He.ga K)) 1 80 (b_law (He.ga K))) := by
  have nd : N_law.Nodup := sc_law.nd
  exact dss_law (k__law_deal x) (hr.mono (by decide)) rfl nd rfl (Or.inr rfl) (pv 0) (by first | exact .inl rfl | exact .inr rfl) (hrest := (dss_cons (ds_parO (i := 2) (j := 3) rfl nd rfl rfl (by decide) rfl rfl (de_lst da_nil) (de_lst da_nil))
  (dss_cons (ds_for PassesOwn.never rfl (di_range1 rfl x.b_range (da_cons (de_cal (k__law_of x) (hr.mono (by decide)) rfl (da_cons (de_var (pv 1)) (da_cons (de_lst (da_cons de_int (da_cons de_int (da_cons de_int (da_cons de_int da_nil))))) da_nil))) da_nil)) (dg_name (i := 4) nd rfl (Or.inl rfl)) (dss_cons (ds_set (i := 5) nd rfl (Or.inl rfl) (de_cal (k__law_some_body x) (hr.mono (by decide)) rfl (da_cons (de_var (pv 1)) da_nil)))
  (dss_cons (ds_set (i := 6) nd rfl (Or.inl rfl) (de_cal (k__law_framed x) (hr.mono (by decide)) rfl (da_cons (de_var (pv 5)) da_nil)))
  (dss_cons (ds_expr (de_mut PySem.F.plainAttrs_list PySem.F.slot_list_append PySem.F.type_list_append mt_append appendF_ok (pv 2) (da_cons (de_tup (da_cons (de_if (dt_cmp op_lt cmpD_ok (de_var (pv 4)) de_int (by first | rfl | exact nomark _)) (de_cal (k_frame x) (hr.mono (by decide)) rfl (da_cons (de_callTy call_tuple_of tupleD_ok rfl x.b_tuple (by first | rfl | decide +kernel) (da_cons (de_var (pv 5)) da_nil)) da_nil)) (de_kcal0 (kk_frame_0_body x) (hr.mono (by decide)) rfl (dk_cons (de_callTy call_tuple_of tupleD_ok rfl x.b_tuple (by first | rfl | decide +kernel) (da_cons (de_var (pv 5)) da_nil)) dk_nil))) (da_cons (de_callTy call_tuple_of tupleD_ok rfl x.b_tuple (by first | rfl | decide +kernel) (da_cons (de_var (pv 6)) da_nil)) da_nil))) da_nil)))
  (dss_one (ds_expr (de_mut PySem.F.plainAttrs_list PySem.F.slot_list_append PySem.F.type_list_append mt_append appendF_ok (pv 3) (da_cons (de_tup (da_cons (de_var (pv 5)) (da_cons (de_var (pv 6)) da_nil))) da_nil))))))))
  (dss_cons (ds_set (i := 7) nd rfl (Or.inl rfl) (de_cal (k__law_joined x) (hr.mono (by decide)) rfl (da_cons (de_comp (own := [("body", 5), ("row", 6)]) rfl nd (di_any (de_var (pv 3))) (blkOk_by (N := N_law) (sc := defScope s_law) (by decide +kernel)) (fun _ _ _ _ _ => (dg_any rfl (dgs_cons (dg_name (i := 5) nd rfl (Or.inl rfl)) (dgs_cons (dg_name (i := 6) nd rfl (Or.inl rfl)) dgs_nil)))) (fun _ _ _ _ _ => dts_nil) (fun _ _ _ _ _ => (de_var (pv 6))) (his := by decide)) da_nil)))
  (dss_cons (ds_expr (de_mut PySem.F.plainAttrs_list PySem.F.slot_list_append PySem.F.type_list_append mt_append appendF_ok (pv 2) (da_cons (de_tup (da_cons (de_cal (k_frames x) (hr.mono (by decide)) rfl (da_cons (de_callTy call_tuple_of tupleD_ok rfl x.b_tuple (by first | rfl | decide +kernel) (da_cons (de_var (pv 7)) da_nil)) da_nil)) (da_cons (de_tup (da_cons (de_callTy call_tuple_of tupleD_ok rfl x.b_tuple (by first | rfl | decide +kernel) (da_cons (de_comp (own := [("body", 5), ("row", 6)]) rfl nd (di_any (de_var (pv 3))) (blkOk_by (N := N_law) (sc := defScope s_law) (by decide +kernel)) (fun _ _ _ _ _ => (dg_any rfl (dgs_cons (dg_name (i := 5) nd rfl (Or.inl rfl)) (dgs_cons (dg_name (i := 6) nd rfl (Or.inl rfl)) dgs_nil)))) (fun _ _ _ _ _ => dts_nil) (fun _ _ _ _ _ => (de_callTy call_tuple_of tupleD_ok rfl x.b_tuple (by first | rfl | decide +kernel) (da_cons (de_var (pv 5)) da_nil))) (his := by decide)) da_nil)) (da_cons (de_lenV rfl x.b_len (pv 7)) da_nil))) da_nil))) da_nil)))
  (dss_cons (ds_for PassesOwn.never rfl (di_range1 rfl x.b_range (da_cons de_int da_nil)) (dg_name (i := 4) nd rfl (Or.inl rfl)) (dss_cons (ds_set (i := 8) nd rfl (Or.inl rfl) (de_cal (k__law_any x) (hr.mono (by decide)) rfl (da_cons (de_var (pv 1)) (da_cons (de_lenV rfl x.b_len (pv 3)) da_nil))))
  (dss_cons (ds_set (i := 9) nd rfl (Or.inl rfl) (de_cal (k__law_joined x) (hr.mono (by decide)) rfl (da_cons (de_comp (own := [("body", 5), ("row", 6)]) rfl nd (di_any (de_slice sl_D slD_ok (de_var (pv 3)) do_none (do_some (de_var (pv 8))))) (blkOk_by (N := N_law) (sc := defScope s_law) (by decide +kernel)) (fun _ _ _ _ _ => (dg_any rfl (dgs_cons (dg_name (i := 5) nd rfl (Or.inl rfl)) (dgs_cons (dg_name (i := 6) nd rfl (Or.inl rfl)) dgs_nil)))) (fun _ _ _ _ _ => dts_nil) (fun _ _ _ _ _ => (de_var (pv 6))) (his := by decide)) da_nil)))
  (dss_cons (ds_set (i := 10) nd rfl (Or.inl rfl) (de_ix ix_seq ixD_ok (de_ixV (pv 3) (de_var (pv 8)) (fun _ _ => rfl)) de_int (fun _ _ => rfl)))
  (dss_cons (ds_set (i := 11) nd rfl (Or.inl rfl) (de_bin op_addD addD_ok (de_var (pv 9)) (de_slice sl_D slD_ok (de_var (pv 10)) do_none (do_some (de_cal (k__law_any x) (hr.mono (by decide)) rfl (da_cons (de_var (pv 1)) (da_cons (de_lenV rfl x.b_len (pv 10)) da_nil)))))))
  (dss_cons (ds_expr (de_mut PySem.F.plainAttrs_list PySem.F.slot_list_append PySem.F.type_list_append mt_append appendF_ok (pv 2) (da_cons (de_tup (da_cons (de_kcal0 (kk_frames_0_octets x) (hr.mono (by decide)) rfl (dk_cons (de_callTy call_tuple_of tupleD_ok rfl x.b_tuple (by first | rfl | decide +kernel) (da_cons (de_var (pv 11)) da_nil)) dk_nil)) (da_cons (de_tup (da_cons (de_callTy call_tuple_of tupleD_ok rfl x.b_tuple (by first | rfl | decide +kernel) (da_cons (de_comp (own := [("body", 5), ("row", 6)]) rfl nd (di_any (de_slice sl_D slD_ok (de_var (pv 3)) do_none (do_some (de_var (pv 8))))) (blkOk_by (N := N_law) (sc := defScope s_law) (by decide +kernel)) (fun _ _ _ _ _ => (dg_any rfl (dgs_cons (dg_name (i := 5) nd rfl (Or.inl rfl)) (dgs_cons (dg_name (i := 6) nd rfl (Or.inl rfl)) dgs_nil)))) (fun _ _ _ _ _ => dts_nil) (fun _ _ _ _ _ => (de_callTy call_tuple_of tupleD_ok rfl x.b_tuple (by first | rfl | decide +kernel) (da_cons (de_var (pv 5)) da_nil))) (his := by decide)) da_nil)) (da_cons (de_lenV rfl x.b_len (pv 9)) da_nil))) da_nil))) da_nil)))
  (dss_cons (ds_expr (de_mut PySem.F.plainAttrs_list PySem.F.slot_list_append PySem.F.type_list_append mt_append appendF_ok (pv 2) (da_cons (de_tup (da_cons (de_cal (k_frames x) (hr.mono (by decide)) rfl (da_cons (de_callTy call_tuple_of tupleD_ok rfl x.b_tuple (by first | rfl | decide +kernel) (da_cons (de_bin op_addD addD_ok (de_var (pv 9)) (de_var (pv 10))) da_nil)) da_nil)) (da_cons (de_tup (da_cons (de_callTy call_tuple_of tupleD_ok rfl x.b_tuple (by first | rfl | decide +kernel) (da_cons (de_comp (own := [("body", 5), ("row", 6)]) rfl nd (di_any (de_slice sl_D slD_ok (de_var (pv 3)) do_none (do_some (de_bin op_addD addD_ok (de_var (pv 8)) de_int)))) (blkOk_by (N := N_law) (sc := defScope s_law) (by decide +kernel)) (fun _ _ _ _ _ => (dg_any rfl (dgs_cons (dg_name (i := 5) nd rfl (Or.inl rfl)) (dgs_cons (dg_name (i := 6) nd rfl (Or.inl rfl)) dgs_nil)))) (fun _ _ _ _ _ => dts_nil) (fun _ _ _ _ _ => (de_callTy call_tuple_of tupleD_ok rfl x.b_tuple (by first | rfl | decide +kernel) (da_cons (de_var (pv 5)) da_nil))) (his := by decide)) da_nil)) (da_cons (de_len rfl x.b_len (da_cons (de_bin op_addD addD_ok (de_var (pv 9)) (de_var (pv 10))) da_nil)) da_nil))) da_nil))) da_nil)))
  (dss_cons (ds_set (i := 12) nd rfl (Or.inl rfl) (de_cal (k__law_bent x) (hr.mono (by decide)) rfl (da_cons (de_var (pv 1)) (da_cons (de_var (pv 7)) da_nil))))
  (dss_cons (ds_expr (de_mut PySem.F.plainAttrs_list PySem.F.slot_list_append PySem.F.type_list_append mt_append appendF_ok (pv 2) (da_cons (de_tup (da_cons (de_cal (k_frames x) (hr.mono (by decide)) rfl (da_cons (de_callTy call_tuple_of tupleD_ok rfl x.b_tuple (by first | rfl | decide +kernel) (da_cons (de_var (pv 12)) da_nil)) da_nil)) (da_cons (de_cal (k__law_due x) (hr.mono (by decide)) rfl (da_cons (de_var (pv 12)) da_nil)) da_nil))) da_nil)))
  (dss_cons (ds_set (i := 13) nd rfl (Or.inl rfl) (de_cal (k__law_of x) (hr.mono (by decide)) rfl (da_cons (de_var (pv 1)) (da_cons (de_lst (da_cons (de_lst (da_cons de_int (da_cons de_int (da_cons de_int da_nil)))) (da_cons (de_lst (da_cons de_int (da_cons de_int (da_cons de_int (da_cons de_int da_nil))))) (da_cons (de_lst (da_cons de_int (da_cons de_int (da_cons de_int da_nil)))) (da_cons (de_lst (da_cons de_int (da_cons de_int (da_cons de_int (da_cons de_int da_nil))))) (da_cons (de_lst (da_cons de_int (da_cons de_int (da_cons de_int (da_cons de_int da_nil))))) (da_cons (de_lst (da_cons de_int da_nil)) (da_cons (de_lst (da_cons de_int (da_cons de_int (da_cons de_int (da_cons de_int (da_cons de_int da_nil)))))) (da_cons (de_lst (da_cons de_int (da_cons de_int (da_cons de_int (da_cons de_int (da_cons de_int da_nil)))))) da_nil))))))))) da_nil))))
  (dss_cons (ds_set (i := 14) nd rfl (Or.inl rfl) (de_bin op_addD addD_ok (de_bin op_addD addD_ok (de_bin op_addD addD_ok (de_var (pv 9)) (de_var (pv 13))) (de_var (pv 10))) (de_comp (own := [("number", 17)]) rfl nd (di_range1 rfl x.b_range (da_cons (de_cal (k__law_any x) (hr.mono (by decide)) rfl (da_cons (de_var (pv 1)) (da_cons de_int da_nil))) da_nil)) (blkOk_by (N := N_law) (sc := defScope s_law) (by decide +kernel)) (fun _ _ _ _ _ => (dg_name (i := 17) nd rfl (Or.inl rfl))) (fun _ _ _ _ _ => dts_nil) (fun _ _ _ _ _ => (de_cal (k__law_octet x) (hr.mono (by decide)) rfl (da_cons (de_var (pv 1)) da_nil))) (his := by decide))))
  (dss_one (ds_expr (de_mut PySem.F.plainAttrs_list PySem.F.slot_list_append PySem.F.type_list_append mt_append appendF_ok (pv 2) (da_cons (de_tup (da_cons (de_cal (k_frames x) (hr.mono (by decide)) rfl (da_cons (de_callTy call_tuple_of tupleD_ok rfl x.b_tuple (by first | rfl | decide +kernel) (da_cons (de_var (pv 14)) da_nil)) da_nil)) (da_cons (de_cal (k__law_due x) (hr.mono (by decide)) rfl (da_cons (de_var (pv 14)) da_nil)) da_nil))) da_nil)))))))))))))))
  (dss_cons (ds_if (dt_cmp (op_eqD (Room.units hr)) eqD_ok (de_cal (k__law_any x) (hr.mono (by decide)) rfl (da_cons (de_var (pv 1)) (da_cons de_int da_nil))) de_int (by first | rfl | exact nomark _)) (dss_cons (ds_parO (i := 8) (j := 15) rfl nd rfl rfl (by decide) rfl rfl (de_cal (k__law_of x) (hr.mono (by decide)) rfl (da_cons (de_var (pv 1)) (da_cons (de_lst (da_cons de_int (da_cons de_int (da_cons de_int da_nil)))) da_nil))) (de_cal (k__law_octet x) (hr.mono (by decide)) rfl (da_cons (de_var (pv 1)) da_nil)))
  (dss_cons (ds_set (i := 16) nd rfl (Or.inl rfl) (de_bin op_mod modD_ok (de_callTy call_int1 int1D_ok rfl x.b_int (by first | rfl | decide +kernel) (da_cons (de_bin op_mulTD mulTD_ok (de_var (pv 15)) (de_bin op_fdivW fdivD_ok (de_bin op_mulTD mulTD_ok (de_var (pv 8)) (de_bin op_addD addD_ok (de_var (pv 8)) de_int)) de_int)) da_nil)) de_int))
  (dss_cons (ds_set (i := 6) nd rfl (Or.inl rfl) (de_bin op_addD addD_ok (de_bin op_addD addD_ok (de_cal (k__law_number_octets x) (hr.mono (by decide)) rfl (da_cons (de_var (pv 8)) da_nil)) (de_bin op_mulTD mulTD_ok (de_lst (da_cons (de_var (pv 15)) da_nil)) (de_var (pv 8)))) (de_lst (da_cons (de_bin op_mod modD_ok (de_callTy call_int1 int1D_ok rfl x.b_int (by first | rfl | decide +kernel) (da_cons (de_var (pv 16)) da_nil)) de_int) (da_cons (de_bin op_fdivW fdivD_ok (de_var (pv 16)) de_int) da_nil)))))
  (dss_cons (ds_expr (de_mut PySem.F.plainAttrs_list PySem.F.slot_list_append PySem.F.type_list_append mt_append appendF_ok (pv 2) (da_cons (de_tup (da_cons (de_cal (k_frame x) (hr.mono (by decide)) rfl (da_cons (de_bin op_mulTD mulTD_ok (de_tup (da_cons (de_var (pv 15)) da_nil)) (de_var (pv 8))) da_nil)) (da_cons (de_callTy call_tuple_of tupleD_ok rfl x.b_tuple (by first | rfl | decide +kernel) (da_cons (de_var (pv 6)) da_nil)) da_nil))) da_nil)))
  (dss_one (ds_expr (de_mut PySem.F.plainAttrs_list PySem.F.slot_list_append PySem.F.type_list_append mt_append appendF_ok (pv 2) (da_cons (de_tup (da_cons (de_cal (k_frames x) (hr.mono (by decide)) rfl (da_cons (de_callTy call_tuple_of tupleD_ok rfl x.b_tuple (by first | rfl | decide +kernel) (da_cons (de_bin op_addD addD_ok (de_var (pv 6)) (de_lst (da_cons de_int (da_cons de_int da_nil)))) da_nil)) da_nil)) (da_cons (de_tup (da_cons (de_tup (da_cons (de_bin op_mulTD mulTD_ok (de_tup (da_cons (de_var (pv 15)) da_nil)) (de_var (pv 8))) da_nil)) (da_cons (de_lenV rfl x.b_len (pv 6)) da_nil))) da_nil))) da_nil)))))))) dss_nil)
  (dss_cons (ds_expr (de_mut PySem.F.plainAttrs_list PySem.F.slot_list_append PySem.F.type_list_append mt_append appendF_ok (pv 2) (da_cons (de_tup (da_cons (de_cal (k_frames x) (hr.mono (by decide)) rfl (da_cons (de_tup da_nil) da_nil)) (da_cons (de_tup (da_cons (de_tup da_nil) (da_cons de_int da_nil))) da_nil))) da_nil)))
  (dss_one (ds_ret (de_cal (k__law_all x) (hr.mono (by decide)) rfl (da_cons (de_var (pv 2)) da_nil))))))))))))
theorem ok_law (x : Fx K mg) (hlaw : ∀ ns : List Int, ns.length ≤ 63 → ∃ cs m S', dO (He.ga K) ns 80 = some (cs, m) ∧ b_law (He.ga K) (lawS 18 1 ns cs m) = .ok (.ret (.val (.bl true))) S') :
    ∃ fd, (∀ (s : Shared) (v : Value), BindsTo s fd ⟨[v], []⟩ [("script", v)]) ∧ ∀ base : Heap, FnOk P w K mg base CX0 5 (He.ga K "law") fd ["script"] (spLaw K 63) := by
  obtain ⟨fd, F⟩ := x.d_law
  have b := FunD.bindsA (ps := ["script"]) F fun _ _ _ _ _ _ us hl => match us, hl with | [_], _ => rfl
  exact ⟨fd, fun s v => b s [v] rfl, fun base => law_ok F sc_law (w_law x) (by decide) (by decide) hlaw⟩
end
end K80

end
section
set_option Elab.async false
set_option Elab.async false
set_option linter.all false
set_option maxRecDepth 100000
set_option maxHeartbeats 0
namespace K80
open PySem PySem.Spec PyProof.Rows L2 DD
/-! the head, printed by gen.py -/
def dd (x : Str) (st : Stmt) : He.DefD := ⟨(x, none), x, x, defArgs st, defBody st, defScope st, [], []⟩
def fn : List He.DefD := [dd "_law_deal" s__law_deal, dd "_law_joined" s__law_joined, dd "_law_plain" s__law_plain, dd "_law_is_kind" s__law_is_kind, dd "_law_same" s__law_same, dd "_law_all" s__law_all, dd "_law_any" s__law_any, dd "_law_of" s__law_of, dd "_law_octet" s__law_octet, dd "_law_some_body" s__law_some_body, dd "_law_sum" s__law_sum, dd "_law_number_octets" s__law_number_octets, dd "_law_framed" s__law_framed, dd "_law_bent" s__law_bent, dd "behind_number" s_behind_number, dd "number_of" s_number_of, dd "number_in" s_number_in, dd "sum_of_octets" s_sum_of_octets, dd "sum_pair" s_sum_pair, dd "frame_at" s_frame_at, dd "frames" s_frames, dd "_law_number_at" s__law_number_at, dd "_law_frames_in" s__law_frames_in, dd "_law_due" s__law_due, dd "octets_of_number" s_octets_of_number, dd "number_octets" s_number_octets, dd "frame" s_frame, dd "law" s_law]
def fa : List He.Fa := (([.free "abs", .free "bool", .free "dict", .free "enumerate", .free "int", .free "isinstance", .free "len", .free "list", .free "range", .free "str", .free "sum", .free "tuple", .free "zip", .int "BASE" 128, .int "OCTET" 256, .int "PRIME" 65521] : List He.Fa) ++ ([.int "SUM_OCTETS" 2, .glo "Finding", .cls "Finding", .glo "LevelsAnswer", .cls "LevelsAnswer", .glo "NamesAnswer", .cls "NamesAnswer", .glo "Web", .cls "Web", .glo "_law_deal", .glo "_law_joined", .glo "_law_plain", .glo "_law_is_kind", .glo "_law_same", .glo "_law_all", .glo "_law_any"] : List He.Fa) ++ ([.glo "_law_of", .glo "_law_octet", .glo "_law_some_body", .glo "_law_sum", .glo "_law_number_octets", .glo "_law_framed", .glo "_law_bent", .glo "behind_number", .glo "number_of", .glo "number_in", .glo "sum_of_octets", .glo "sum_pair", .glo "frame_at", .glo "frames", .glo "_law_number_at", .glo "_law_frames_in"] : List He.Fa) ++ ([.glo "_law_due", .glo "octets_of_number", .glo "number_octets", .glo "frame", .glo "law"] : List He.Fa))
def ex (K : PySem.W.Frag) : Bool := isiC K (csG (He.ga K))
abbrev R : PySem.W.OpenRow := PySem.W.OpenLaw.row PySem.Challenge.rw_namesenough_k80_frames_are_read_up_to_th
abbrev hk : PySem.W.Hook := hookE 4 fa fn ex
def ob (s : PySem.W.SharedT) : AlE := obsE 4 fa fn ex (HandSHeadRun.getT s)
theorem ob_eq (s : PySem.W.SharedT) : ob s = hk.obs s.abs := obsE_eq (HandSHeadRun.getT_eq s)
def loose : List Str := ((["Web", "Finding", "NamesAnswer", "LevelsAnswer", "BASE", "octets_of_number", "number_of", "behind_number", "number_in", "OCTET", "PRIME", "SUM_OCTETS", "number_octets", "sum_of_octets", "sum_pair", "frame"] : List PySem.Str) ++ (["frame_at", "frames", "_law_deal", "_law_any", "_law_of", "_law_is_kind", "_law_same", "_law_all", "_law_plain", "_law_number_octets", "_law_sum", "_law_framed", "_law_joined", "_law_octet", "_law_number_at", "_law_frames_in"] : List PySem.Str) ++ (["_law_some_body", "_law_bent", "_law_due"] : List PySem.Str))
theorem run (w : World) : HandSHeadRun.RunEq R (PySem.W.view R.prog [41]) hk ob 4000 loose w := by
  intro os
  kernel_rfl
theorem fx {K : PySem.W.Frag} {h : Heap} {mg : Str → Option Value} (XK : K.In h) (Gn : h.Ns mainGlobals mg) (c : He.SaysD fa fn K) (e : ex K = true) : Fx K mg where
  b_abs := He.free_ok XK Gn (c.fact 0 rfl)
  b_bool := He.free_ok XK Gn (c.fact 1 rfl)
  b_dict := He.free_ok XK Gn (c.fact 2 rfl)
  b_enumerate := He.free_ok XK Gn (c.fact 3 rfl)
  b_int := He.free_ok XK Gn (c.fact 4 rfl)
  b_isinstance := He.free_ok XK Gn (c.fact 5 rfl)
  b_len := He.free_ok XK Gn (c.fact 6 rfl)
  b_list := He.free_ok XK Gn (c.fact 7 rfl)
  b_range := He.free_ok XK Gn (c.fact 8 rfl)
  b_str := He.free_ok XK Gn (c.fact 9 rfl)
  b_sum := He.free_ok XK Gn (c.fact 10 rfl)
  b_tuple := He.free_ok XK Gn (c.fact 11 rfl)
  b_zip := He.free_ok XK Gn (c.fact 12 rfl)
  c_BASE := He.int_ok XK Gn (c.fact 13 rfl)
  c_OCTET := He.int_ok XK Gn (c.fact 14 rfl)
  c_PRIME := He.int_ok XK Gn (c.fact 15 rfl)
  c_SUM_OCTETS := He.int_ok XK Gn (c.fact 16 rfl)
  g_Finding := He.glo_ok XK Gn (c.fact 17 rfl)
  g_LevelsAnswer := He.glo_ok XK Gn (c.fact 19 rfl)
  g_NamesAnswer := He.glo_ok XK Gn (c.fact 21 rfl)
  g_Web := He.glo_ok XK Gn (c.fact 23 rfl)
  g__law_deal := He.glo_ok XK Gn (c.fact 25 rfl)
  d__law_deal := c.def_ 0 rfl
  g__law_joined := He.glo_ok XK Gn (c.fact 26 rfl)
  d__law_joined := c.def_ 1 rfl
  g__law_plain := He.glo_ok XK Gn (c.fact 27 rfl)
  d__law_plain := c.def_ 2 rfl
  g__law_is_kind := He.glo_ok XK Gn (c.fact 28 rfl)
  d__law_is_kind := c.def_ 3 rfl
  g__law_same := He.glo_ok XK Gn (c.fact 29 rfl)
  d__law_same := c.def_ 4 rfl
  g__law_all := He.glo_ok XK Gn (c.fact 30 rfl)
  d__law_all := c.def_ 5 rfl
  g__law_any := He.glo_ok XK Gn (c.fact 31 rfl)
  d__law_any := c.def_ 6 rfl
  g__law_of := He.glo_ok XK Gn (c.fact 32 rfl)
  d__law_of := c.def_ 7 rfl
  g__law_octet := He.glo_ok XK Gn (c.fact 33 rfl)
  d__law_octet := c.def_ 8 rfl
  g__law_some_body := He.glo_ok XK Gn (c.fact 34 rfl)
  d__law_some_body := c.def_ 9 rfl
  g__law_sum := He.glo_ok XK Gn (c.fact 35 rfl)
  d__law_sum := c.def_ 10 rfl
  g__law_number_octets := He.glo_ok XK Gn (c.fact 36 rfl)
  d__law_number_octets := c.def_ 11 rfl
  g__law_framed := He.glo_ok XK Gn (c.fact 37 rfl)
  d__law_framed := c.def_ 12 rfl
  g__law_bent := He.glo_ok XK Gn (c.fact 38 rfl)
  d__law_bent := c.def_ 13 rfl
  g_behind_number := He.glo_ok XK Gn (c.fact 39 rfl)
  d_behind_number := c.def_ 14 rfl
  g_number_of := He.glo_ok XK Gn (c.fact 40 rfl)
  d_number_of := c.def_ 15 rfl
  g_number_in := He.glo_ok XK Gn (c.fact 41 rfl)
  d_number_in := c.def_ 16 rfl
  g_sum_of_octets := He.glo_ok XK Gn (c.fact 42 rfl)
  d_sum_of_octets := c.def_ 17 rfl
  g_sum_pair := He.glo_ok XK Gn (c.fact 43 rfl)
  d_sum_pair := c.def_ 18 rfl
  g_frame_at := He.glo_ok XK Gn (c.fact 44 rfl)
  d_frame_at := c.def_ 19 rfl
  g_frames := He.glo_ok XK Gn (c.fact 45 rfl)
  d_frames := c.def_ 20 rfl
  g__law_number_at := He.glo_ok XK Gn (c.fact 46 rfl)
  d__law_number_at := c.def_ 21 rfl
  g__law_frames_in := He.glo_ok XK Gn (c.fact 47 rfl)
  d__law_frames_in := c.def_ 22 rfl
  g__law_due := He.glo_ok XK Gn (c.fact 48 rfl)
  d__law_due := c.def_ 23 rfl
  g_octets_of_number := He.glo_ok XK Gn (c.fact 49 rfl)
  d_octets_of_number := c.def_ 24 rfl
  g_number_octets := He.glo_ok XK Gn (c.fact 50 rfl)
  d_number_octets := c.def_ 25 rfl
  g_frame := He.glo_ok XK Gn (c.fact 51 rfl)
  d_frame := c.def_ 26 rfl
  g_law := He.glo_ok XK Gn (c.fact 52 rfl)
  d_law := c.def_ 27 rfl
  isi := isiC_ok e fun C hC => by
    simp only [csG, List.mem_cons, List.not_mem_nil, or_false] at hC
    rcases hC with rfl | rfl | rfl | rfl
    · exact He.cls_ok (c.fact 18 rfl)
    · exact He.cls_ok (c.fact 20 rfl)
    · exact He.cls_ok (c.fact 22 rfl)
    · exact He.cls_ok (c.fact 24 rfl)
end K80
open PySem PySem.W PySem.Calls PyProof.Rows
theorem K80.holds (hlaw : ∀ (G : PySem.Str → PySem.Addr) (ns : List Int), ns.length ≤ 63 → ∃ cs m S', K80.dO G ns 80 = some (cs, m) ∧ K80.b_law G (DD.lawS 18 1 ns cs m) = .ok (.ret (.val (.bl true))) S') :
    PySem.Challenge.rw_namesenough_k80_frames_are_read_up_to_th.Holds := by
  w_on; o_law
  refine HandSHeadRun.head_any (r := OpenLaw.row PySem.Challenge.rw_namesenough_k80_frames_are_read_up_to_th) (q := view (OpenLaw.row PySem.Challenge.rw_namesenough_k80_frames_are_read_up_to_th).prog [41]) (H := K80.hk) (ob := K80.ob) (M := 4000) (loose := K80.loose) (d := HandSHeadRun.topDef (OpenLaw.row PySem.Challenge.rw_namesenough_k80_frames_are_read_up_to_th).prog 41) (kwd := []) K80.ob_eq
    (by kernel_rfl) (fun s => by kernel_rfl) K80.run (by kernel_rfl) (by kernel_rfl) (by kernel_rfl) (by rfl) (by first | assumption | decide +kernel) (by decide +kernel) ⟨rfl, rfl, rfl, rfl, rfl, by decide +kernel⟩ ?hw ?hc
  case hw => w_witness2
  case hc =>
    refine L2.walk_ofE (l := PySem.Challenge.rw_namesenough_k80_frames_are_read_up_to_th) (n := 63) (k := 5) (x := "script") (CX := L2.CX0) rfl (by decide) (by kernel_rfl) ⟨rfl, by decide, by decide⟩ ?F (fun _ _ _ _ z => z)
    intro w mg fa h Y G hmg0
    obtain ⟨K, KX, c, e⟩ := Y
    have hmg : mg ("law" : PySem.Str) = some (.ref fa) := by
      have e : (HandSHeadRun.topDef (OpenLaw.row PySem.Challenge.rw_namesenough_k80_frames_are_read_up_to_th).prog 41).name = ("law" : PySem.Str) := by kernel_rfl
      rw [← e]
      exact hmg0
    have X := K80.fx KX G c e
    have eg := hmg.symm.trans X.g_law
    cases eg
    obtain ⟨fd, hb, hF⟩ := K80.ok_law (P := (PySem.Challenge.rw_namesenough_k80_frames_are_read_up_to_th).prog) (w := w) X (fun ns hl => hlaw _ ns hl)
    exact ⟨K, fd, DD.spLaw K 63, KX, hb, fun H a ns hl _ hS => ⟨a, ns, rfl, hS, hl, fun _ => rfl⟩, fun base _ _ => hF base⟩


end
section
set_option Elab.async false
theorem PySem.Challenge.cw_namesenough_k80_frames_are_read_up_to_th_holds : PySem.Challenge.rw_namesenough_k80_frames_are_read_up_to_th.Holds := by
  exact K80.holds K80.law_pure

end
