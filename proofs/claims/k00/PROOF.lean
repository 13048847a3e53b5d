import PyProof.Rows.All
import Wide.All
import OpenK.AllK
import Wide.FinOn
import HandS.ForMost
import HandS.Exc
import HandS.ExcOwn
import HandS.TryOnly
import HandS.WordsExc
import HandS.CallSlots
import HandS.Lambda
import HandS.HotCalls
import HandS.TupAny
import HandS.TupMul
import HandS.Deep
import HandS.Style
import HandS.Strs
import HandS.IsInst
import HandS.Defaults
import HandS.CallLocal
import HandS.Comp
import HandS.Iter
import KE.GoesEnum
import KE.GoesZip
import KE.GoesMore
import HandS.ExcInit
import KE.KExcSuper
import HandS.ExcSuper
import HandS.SortRule
import PyProof.ReprRoads
import HandS.HeadHook4
import HandS.SlotsOwn
import HandS.ExcField
import HandS.ExcIs
import KE.KExcIs
import KE.KDflt
import HandS.EndTab
import HandS.HeadWalk
import HandS.IterVal
import HandS.ExcValue
import PyProof.ReprBulk
import PyProof.ReprText
import PySem.Challenge.RW_spillgates_k00_errors_tell_their_fields
import KE.KStateDown
import HandS.Ends
import HandS.Head0
import HandS.Head1
import HandS.Head2
import HandS.HeadEnd
set_option Elab.async false
set_option linter.all false
set_option maxRecDepth 100000
/-! A data layer over HandS: values as data, what a state says of them, expressions and statements by what they compute. -/
namespace DL
open PySem PySem.Spec PyProof.Rows L2

/-- values as data -/
inductive D where
  | non | bl (b : Bool) | int (i : Int) | str (s : List Nat)
  | tup (xs : List D) | lst (xs : List D) | dct (ks vs : List D)
  | obj (c : Nat) (fs : List D) | fn (f : Nat) | row | scr (xs : List D) | kon (xs : List D) | exn (c : Nat) (fs : List D) | exo (c : Nat) (fs : List D)
  deriving Inhabited

/-- a text by its codes -/
abbrev S (l : List Nat) : Str := ⟨l.toArray⟩

/-- what stands where -/
structure Lay where
  K : PySem.W.Frag
  C : Nat → Addr
  F : Nat → Addr
  fl : Nat → List Str
  dict : Addr → HO → List V → List V → Prop
  tb : List (Addr × Str)
  dni : ∀ a o vs us, dict a o vs us → ∀ C dx fs, o ≠ .ins C dx fs
  ρ : Addr
  xa : Option (Addr × Option Addr × Nat) := none
  xn : Addr → Prop := fun _ => True
/-- what may change under a call: the row, the tables of code objects -/
def Lay.M (Y : Lay) (a : Addr) : Prop := a = Y.ρ ∨ ∃ q, (a, q) ∈ Y.tb

/-- an own exception held as a value, with its dict or none -/
def ExG (cls : Value) (d : Option Addr) (a : Addr) : HO := .ext fun h => ∃ (oe : Obj) (us : Array Value), h.get? a = some oe ∧ Zc cls d oe ∧ oe.data = .fields us ∧ us[1]? = some .none ∧ us[2]? = some .none ∧ 4 < us.size
/-- its fields -/
def XdR (G : Hp) (d : Option Addr) (ks : List Str) (vs : List V) : Prop := match d with
  | some dx => G dx = some (.xd (ks.zip vs))
  | none => ks = []
abbrev Le (G G' : Hp) : Prop := ∀ b o, G b = some o → G' b = some o

mutual
/-- the value v stands for d, by what is frozen in G -/
def Rp (Y : Lay) (G : Hp) : D → V → Prop
  | .non, v => v = .non
  | .bl b, v => v = .bl b
  | .int i, v => v = .int i
  | .str l, v => v = .str (S l)
  | .tup ds, v => ∃ a vs, v = .ref a ∧ SqT Y.K G a vs ∧ RpL Y G ds vs
  | .lst ds, v => ∃ a vs, v = .ref a ∧ G a = some (.lst vs) ∧ RpL Y G ds vs
  | .scr ds, v => ∃ a vs, v = .ref a ∧ SqL Y.K G a vs ∧ RpL Y G ds vs
  | .kon ds, v => ∃ a vs, v = .ref a ∧ SqT Y.K G a vs ∧ (∃ o, Y.K.lookup a = some o ∧ o.cls = .type "tuple" ∧ o.dict = none) ∧ RpL Y G ds vs
  | .dct ks ws, v => ∃ a o vs us, v = .ref a ∧ G a = some o ∧ Y.dict a o vs us ∧ RpL Y G ks vs ∧ RpL Y G ws us
  | .obj c fs, v => ∃ a dx vs, v = .ref a ∧ G a = some (.ins (Y.C c) dx ((Y.fl c).zip vs)) ∧ vs.length = (Y.fl c).length ∧ RpL Y G fs vs
  | .fn f, v => v = .ref (Y.F f)
  | .row, v => v = .ref Y.ρ
  | .exn c fs, v => ∃ a dx vs, v = .ref a ∧ Y.xa = some (a, dx, c) ∧ XdR G dx (Y.fl c) vs ∧ vs.length = (Y.fl c).length ∧ RpL Y G fs vs
  | .exo c fs, v => ∃ a d vs, v = .ref a ∧ Y.xn a ∧ G a = some (ExG (.ref (Y.C c)) d a) ∧ XdR G d (Y.fl c) vs ∧ vs.length = (Y.fl c).length ∧ RpL Y G fs vs
def RpL (Y : Lay) (G : Hp) : List D → List V → Prop
  | [], vs => vs = []
  | d :: ds, vs => ∃ v r, vs = v :: r ∧ Rp Y G d v ∧ RpL Y G ds r
end

theorem XdR.mono {G G' : Hp} {d : Option Addr} {ks : List Str} {vs : List V} (e : Le G G') (h : XdR G d ks vs) : XdR G' d ks vs := by
  cases d with
  | none => exact h
  | some dx => exact e _ _ h
theorem SqT.mono {K : PySem.W.Frag} {G G' : Hp} {a : Addr} {xs : List V} (e : Le G G') (h : SqT K G a xs) : SqT K G' a xs := by
  rcases h with (h | ⟨o, h⟩) | h
  · exact .inl (.inl (e _ _ h))
  · exact .inl (.inr ⟨o, e _ _ h⟩)
  · exact .inr h
theorem SqL.mono {K : PySem.W.Frag} {G G' : Hp} {a : Addr} {xs : List V} (e : Le G G') (h : SqL K G a xs) : SqL K G' a xs := by
  rcases h with (h | ⟨o, h⟩) | h
  · exact .inl (.inl (e _ _ h))
  · exact .inl (.inr ⟨o, e _ _ h⟩)
  · exact .inr h

mutual
theorem Rp.mono {Y : Lay} {G G' : Hp} (e : Le G G') : ∀ {d : D} {v : V}, Rp Y G d v → Rp Y G' d v
  | .non, v, h => by simpa [Rp] using h
  | .bl b, v, h => by simpa [Rp] using h
  | .int i, v, h => by simpa [Rp] using h
  | .str l, v, h => by simpa [Rp] using h
  | .tup ds, v, h => by
    rw [Rp] at h ⊢
    obtain ⟨a, vs, h1, h2, h3⟩ := h
    exact ⟨a, vs, h1, SqT.mono e h2, RpL.mono e h3⟩
  | .lst ds, v, h => by
    rw [Rp] at h ⊢
    obtain ⟨a, vs, h1, h2, h3⟩ := h
    exact ⟨a, vs, h1, e _ _ h2, RpL.mono e h3⟩
  | .scr ds, v, h => by
    rw [Rp] at h ⊢
    obtain ⟨a, vs, h1, h2, h3⟩ := h
    exact ⟨a, vs, h1, SqL.mono e h2, RpL.mono e h3⟩
  | .kon ds, v, h => by
    rw [Rp] at h ⊢
    obtain ⟨a, vs, h1, h2, h0, h3⟩ := h
    exact ⟨a, vs, h1, SqT.mono e h2, h0, RpL.mono e h3⟩
  | .dct ks ws, v, h => by
    rw [Rp] at h ⊢
    obtain ⟨a, o, vs, us, h1, h0, h2, h3, h4⟩ := h
    exact ⟨a, o, vs, us, h1, e _ _ h0, h2, RpL.mono e h3, RpL.mono e h4⟩
  | .obj c fs, v, h => by
    rw [Rp] at h ⊢
    obtain ⟨a, dx, vs, h1, h2, hl, h3⟩ := h
    exact ⟨a, dx, vs, h1, e _ _ h2, hl, RpL.mono e h3⟩
  | .fn f, v, h => by simpa [Rp] using h
  | .row, v, h => by simpa [Rp] using h
  | .exn c fs, v, h => by
    rw [Rp] at h ⊢
    obtain ⟨a, dx, vs, h1, h2, h3, hl, h4⟩ := h
    exact ⟨a, dx, vs, h1, h2, XdR.mono e h3, hl, RpL.mono e h4⟩
  | .exo c fs, v, h => by
    rw [Rp] at h ⊢
    obtain ⟨a, d, vs, h1, h0, h2, h3, hl, h4⟩ := h
    exact ⟨a, d, vs, h1, h0, e _ _ h2, XdR.mono e h3, hl, RpL.mono e h4⟩
theorem RpL.mono {Y : Lay} {G G' : Hp} (e : Le G G') : ∀ {ds : List D} {vs : List V}, RpL Y G ds vs → RpL Y G' ds vs
  | [], vs, h => by simpa [RpL] using h
  | d :: ds, vs, h => by
    rw [RpL] at h ⊢
    obtain ⟨v, r, h1, h2, h3⟩ := h
    exact ⟨v, r, h1, Rp.mono e h2, RpL.mono e h3⟩
end
section
variable {Y : Lay} {G : Hp}
theorem RpL.nil : RpL Y G [] [] := by rw [RpL]
theorem RpL.cons {d : D} {v : V} {ds : List D} {vs : List V} (h : Rp Y G d v) (t : RpL Y G ds vs) : RpL Y G (d :: ds) (v :: vs) := by
  rw [RpL]; exact ⟨v, vs, rfl, h, t⟩
theorem RpL.nil_inv {vs : List V} (h : RpL Y G [] vs) : vs = [] := by rwa [RpL] at h
theorem RpL.cons_inv {d : D} {ds : List D} {vs : List V} (h : RpL Y G (d :: ds) vs) : ∃ v r, vs = v :: r ∧ Rp Y G d v ∧ RpL Y G ds r := by rwa [RpL] at h
theorem RpL.length : ∀ {ds : List D} {vs : List V}, RpL Y G ds vs → ds.length = vs.length
  | [], _, h => by rw [h.nil_inv]; rfl
  | d :: ds, _, h => by
    obtain ⟨v, r, rfl, _, t⟩ := h.cons_inv
    simp [RpL.length t]
theorem RpL.append : ∀ {ds es : List D} {vs us : List V}, RpL Y G ds vs → RpL Y G es us → RpL Y G (ds ++ es) (vs ++ us)
  | [], _, _, _, h, q => by rw [h.nil_inv]; exact q
  | d :: ds, _, _, _, h, q => by
    obtain ⟨v, r, rfl, hv, t⟩ := h.cons_inv
    exact RpL.cons hv (RpL.append t q)
theorem RpL.get : ∀ {ds : List D} {vs : List V} {i : Nat} {d : D}, RpL Y G ds vs → ds[i]? = some d → ∃ v, vs[i]? = some v ∧ Rp Y G d v
  | [], _, _, _, _, e => by simp at e
  | d :: ds, _, 0, _, h, e => by
    obtain ⟨v, r, rfl, hv, t⟩ := h.cons_inv
    simp at e; subst e
    exact ⟨v, rfl, hv⟩
  | d :: ds, _, i + 1, _, h, e => by
    obtain ⟨v, r, rfl, hv, t⟩ := h.cons_inv
    simpa using RpL.get (i := i) t (by simpa using e)
theorem RpL.getV : ∀ {ds : List D} {vs : List V} {i : Nat} {v : V}, RpL Y G ds vs → vs[i]? = some v → ∃ d, ds[i]? = some d ∧ Rp Y G d v
  | [], _, _, _, h, e => by rw [h.nil_inv] at e; simp at e
  | d :: ds, _, 0, _, h, e => by
    obtain ⟨v, r, rfl, hv, t⟩ := h.cons_inv
    simp at e; subst e
    exact ⟨d, rfl, hv⟩
  | d :: ds, _, i + 1, _, h, e => by
    obtain ⟨v, r, rfl, hv, t⟩ := h.cons_inv
    simpa using RpL.getV (i := i) t (by simpa using e)
theorem RpL.take : ∀ {ds : List D} {vs : List V} (n : Nat), RpL Y G ds vs → RpL Y G (ds.take n) (vs.take n)
  | _, _, 0, _ => by simp [RpL.nil]
  | [], _, n + 1, h => by rw [h.nil_inv]; simp [RpL.nil]
  | d :: ds, _, n + 1, h => by
    obtain ⟨v, r, rfl, hv, t⟩ := h.cons_inv
    exact RpL.cons hv (RpL.take n t)
theorem RpL.drop : ∀ {ds : List D} {vs : List V} (n : Nat), RpL Y G ds vs → RpL Y G (ds.drop n) (vs.drop n)
  | _, _, 0, h => h
  | [], _, n + 1, h => by rw [h.nil_inv]; simp [RpL.nil]
  | d :: ds, _, n + 1, h => by
    obtain ⟨v, r, rfl, hv, t⟩ := h.cons_inv
    exact RpL.drop n t
theorem RpL.set {d : D} {v : V} (hd : Rp Y G d v) : ∀ {ds : List D} {vs : List V} (i : Nat), RpL Y G ds vs → RpL Y G (ds.set i d) (vs.set i v)
  | [], _, _, h => by rw [h.nil_inv]; simp [RpL.nil]
  | e :: ds, _, 0, h => by
    obtain ⟨v', r, rfl, hv, t⟩ := h.cons_inv
    exact RpL.cons hd t
  | e :: ds, _, i + 1, h => by
    obtain ⟨v', r, rfl, hv, t⟩ := h.cons_inv
    exact RpL.cons hv (RpL.set hd i t)
end

section
variable {Y : Lay} {G : Hp}
theorem int_inv {i : Int} {v : V} (h : Rp Y G (.int i) v) : v = .int i := by rwa [Rp] at h
theorem bl_inv {i : Bool} {v : V} (h : Rp Y G (.bl i) v) : v = .bl i := by rwa [Rp] at h
theorem non_inv {v : V} (h : Rp Y G .non v) : v = .non := by rwa [Rp] at h
theorem str_inv {l : List Nat} {v : V} (h : Rp Y G (.str l) v) : v = .str (S l) := by rwa [Rp] at h
theorem tup_inv {ds : List D} {v : V} (h : Rp Y G (.tup ds) v) : ∃ a vs, v = .ref a ∧ SqT Y.K G a vs ∧ RpL Y G ds vs := by rwa [Rp] at h
theorem lst_inv {ds : List D} {v : V} (h : Rp Y G (.lst ds) v) : ∃ a vs, v = .ref a ∧ G a = some (.lst vs) ∧ RpL Y G ds vs := by rwa [Rp] at h
theorem scr_inv {ds : List D} {v : V} (h : Rp Y G (.scr ds) v) : ∃ a vs, v = .ref a ∧ SqL Y.K G a vs ∧ RpL Y G ds vs := by rwa [Rp] at h
theorem kon_inv {ds : List D} {v : V} (h : Rp Y G (.kon ds) v) : ∃ a vs, v = .ref a ∧ SqT Y.K G a vs ∧ (∃ o, Y.K.lookup a = some o ∧ o.cls = .type "tuple" ∧ o.dict = none) ∧ RpL Y G ds vs := by rwa [Rp] at h
theorem obj_inv {c : Nat} {fs : List D} {v : V} (h : Rp Y G (.obj c fs) v) : ∃ a dx vs, v = .ref a ∧ G a = some (.ins (Y.C c) dx ((Y.fl c).zip vs)) ∧ vs.length = (Y.fl c).length ∧ RpL Y G fs vs := by rwa [Rp] at h
theorem row_inv {v : V} (h : Rp Y G .row v) : v = .ref Y.ρ := by rwa [Rp] at h
theorem exn_inv {c : Nat} {fs : List D} {v : V} (h : Rp Y G (.exn c fs) v) : ∃ a dx vs, v = .ref a ∧ Y.xa = some (a, dx, c) ∧ XdR G dx (Y.fl c) vs ∧ vs.length = (Y.fl c).length ∧ RpL Y G fs vs := by rwa [Rp] at h
theorem exo_inv {c : Nat} {fs : List D} {v : V} (h : Rp Y G (.exo c fs) v) : ∃ a d vs, v = .ref a ∧ Y.xn a ∧ G a = some (ExG (.ref (Y.C c)) d a) ∧ XdR G d (Y.fl c) vs ∧ vs.length = (Y.fl c).length ∧ RpL Y G fs vs := by rwa [Rp] at h
theorem fn_inv {f : Nat} {v : V} (h : Rp Y G (.fn f) v) : v = .ref (Y.F f) := by rwa [Rp] at h
theorem rp_int (i : Int) : Rp Y G (.int i) (.int i) := by rw [Rp]
theorem rp_bl (i : Bool) : Rp Y G (.bl i) (.bl i) := by rw [Rp]
theorem rp_str (i : List Nat) : Rp Y G (.str i) (.str (S i)) := by rw [Rp]
theorem rp_non : Rp Y G .non .non := by rw [Rp]
theorem rp_tup {ds : List D} {a : Addr} {vs : List V} (h : SqT Y.K G a vs) (r : RpL Y G ds vs) : Rp Y G (.tup ds) (.ref a) := by rw [Rp]; exact ⟨a, vs, rfl, h, r⟩
theorem rp_lst {ds : List D} {a : Addr} {vs : List V} (h : G a = some (.lst vs)) (r : RpL Y G ds vs) : Rp Y G (.lst ds) (.ref a) := by rw [Rp]; exact ⟨a, vs, rfl, h, r⟩
end

/-! ### results, slots -/
inductive Res (α : Type) where
  | ok (a : α) (st : List D)
  | exc (c : Nat) (fs : List D) (st : List D)
  | bad
def Res.bind {α β : Type} (r : Res α) (k : α → List D → Res β) : Res β := match r with
  | .ok a st => k a st
  | .exc c fs st => .exc c fs st
  | .bad => .bad

/-- what a slot's own thing holds -/
inductive Own where
  | lst (ds : List D) | dct (ks vs : List D)
inductive Sl where
  | un | val (d : D) | own (o : Own) | slf (c : Nat) (ks : List Str) (fs : List D)
abbrev DEnv := List Sl

section
variable (Y : Lay) (fc : Addr) (Nw : Addr → Prop)
def OwnR (G H : Hp) (a : Addr) : Own → Prop
  | .lst ds => ∃ vs, H a = some (.lst vs) ∧ RpL Y G ds vs
  | .dct ks ws => ∃ o vs us, H a = some o ∧ Y.dict a o vs us ∧ RpL Y G ks vs ∧ RpL Y G ws us
/-- the instance that an __init__ is told -/
def SelfR (G H : Hp) (c : Nat) (ks : List Str) (fs : List D) : Prop := G fc = none ∧ ¬ Y.M fc ∧ Nw fc ∧ ∃ dx vs, H fc = some (.ins (Y.C c) dx (ks.zip vs)) ∧ vs.length = ks.length ∧ RpL Y G fs vs
def SlotR (G H : Hp) (x : Option V) : Sl → Prop
  | .un => True
  | .val d => ∃ v, x = some v ∧ Rp Y G d v
  | .own o => ∃ a, x = some (.ref a) ∧ G a = none ∧ ¬ Y.M a ∧ Nw a ∧ OwnR Y G H a o
  | .slf c ks fs => x = some (.ref fc) ∧ SelfR Y fc Nw G H c ks fs
def RowR (G : Hp) (st : List D) (H : Hp) : Prop := ∃ vs, H Y.ρ = some (.lst vs) ∧ G Y.ρ = none ∧ RpL Y G st vs ∧ (∀ p ∈ Y.tb, LamX.TabS H p.1 p.2) ∧ ∀ p ∈ Y.tb, G p.1 = none
structure ER (G : Hp) (env : DEnv) (st : List D) (σ : L2.St) (H : Hp) : Prop where
  fz : Le G H
  sl : ∀ (i : Nat) (s : Sl), env[i]? = some s → ∃ x, σ[i]? = some x ∧ SlotR Y fc Nw G H x s
  dis : ∀ (i j : Nat) (o u : Own), env[i]? = some (.own o) → env[j]? = some (.own u) → i ≠ j → σ[i]? ≠ σ[j]?
  row : RowR Y G st H
end
/-- the heap grows; what is frozen stays, what was tracked stays but for M -/
structure Ext (M : Addr → Prop) (G H G' H' : Hp) : Prop where
  g : Le G G'
  f : Le G' H'
  h : ∀ a o, H a = some o → ¬ M a → H' a = some o
  n : ∀ a o, G' a = some o → G a = some o ∨ H a = none
theorem Ext.refl {M : Addr → Prop} {G H : Hp} (f : Le G H) : Ext M G H G H := ⟨fun _ _ h => h, f, fun _ _ h _ => h, fun _ _ h => .inl h⟩
theorem Ext.trans {M : Addr → Prop} {G H G1 H1 G2 H2 : Hp} (a : Ext M G H G1 H1) (b : Ext M G1 H1 G2 H2) (r : ∀ x, M x → ∃ o, H1 x = some o) : Ext M G H G2 H2 where
  g := fun x o h => b.g x o (a.g x o h)
  f := b.f
  h := fun x o h n => b.h x o (a.h x o h n) n
  n := fun x o h => by
    rcases b.n x o h with h1 | h1
    · exact a.n x o h1
    · by_cases e : M x
      · obtain ⟨u, hu⟩ := r x e
        rw [hu] at h1; cases h1
      · cases q : H x with
        | none => exact .inr rfl
        | some u => rw [a.h x u q e] at h1; cases h1
/-- a new frozen object -/
theorem Ext.new {M : Addr → Prop} {G H : Hp} {p : Addr} {o : HO} (f : Le G H) (hp : H p = none) : Ext M G H (upd G p o) (upd H p o) where
  g := fun x u h => by rw [upd_ne (ne_of_none (f _ _ h) hp)]; exact h
  f := fun x u h => by
    by_cases e : x = p
    · subst e; rw [upd_same] at h ⊢; exact h
    · rw [upd_ne e] at h ⊢; exact f _ _ h
  h := fun x u h _ => by rw [upd_ne (ne_of_none h hp)]; exact h
  n := fun x u h => by
    by_cases e : x = p
    · subst e; exact .inr hp
    · rw [upd_ne e] at h; exact .inl h
/-- a new object that is not frozen -/
theorem Ext.lay {M : Addr → Prop} {G H : Hp} {p : Addr} {o : HO} (f : Le G H) (hp : H p = none) : Ext M G H G (upd H p o) where
  g := fun _ _ h => h
  f := fun x u h => by rw [upd_ne (ne_of_none (f _ _ h) hp)]; exact f _ _ h
  h := fun x u h _ => by rw [upd_ne (ne_of_none h hp)]; exact h
  n := fun _ _ h => .inl h
theorem codeO_lst {c : Addr} {q : Str} {vs : List V} : LamX.CodeO c q ≠ .lst vs := fun z => by
  unfold LamX.CodeO at z
  cases z
theorem codeO_ins {c C dx : Addr} {q : Str} {fs : List (Str × V)} : LamX.CodeO c q ≠ .ins C dx fs := fun z => by
  unfold LamX.CodeO at z
  cases z
/-- a table stays where its object and the code objects stay -/
theorem tabS_keep {H H' : Hp} {P : Addr} {q : Str} (t : LamX.TabS H P q) (hP : H' P = H P) (hc : ∀ c, H c = some (LamX.CodeO c q) → H' c = H c) : LamX.TabS H' P q := by
  obtain ⟨ps, h1, h2, h3⟩ := t
  refine ⟨ps, hP.trans h1, h2, fun pos cv h => ?_⟩
  obtain ⟨c, e1, e2⟩ := h3 pos cv h
  exact ⟨c, e1, (hc c e2).trans e2⟩
/-- a thing that is no table and no code object is written -/
theorem tabS_upd {H : Hp} {P a : Addr} {q : Str} {o u : HO} (t : LamX.TabS H P q) (ha : H a = some o) (n1 : ∀ ps, o ≠ .tbl ps) (n2 : ∀ c q, o ≠ LamX.CodeO c q) : LamX.TabS (upd H a u) P q := by
  obtain ⟨ps, h1, _⟩ := id t
  refine tabS_keep t (upd_ne fun z => ?_) fun c hc => upd_ne fun z => ?_
  · rw [z, ha] at h1
    exact n1 ps (Option.some.inj h1)
  · rw [z, ha] at hc
    exact n2 _ _ (Option.some.inj hc)
section
variable {Y : Lay} {fc : Addr} {Nw : Addr → Prop} {G H G' H' : Hp} {env : DEnv} {st st' : List D} {σ : L2.St}
theorem RowR.there (h : RowR Y G st H) : ∀ a, Y.M a → ∃ o, H a = some o := by
  obtain ⟨vs, h1, h2, h3, h4, h5⟩ := h
  rintro a (rfl | ⟨q, hq⟩)
  · exact ⟨_, h1⟩
  · obtain ⟨ps, h, _⟩ := h4 _ hq
    exact ⟨_, h⟩
theorem RowR.free (h : RowR Y G st H) : ∀ a, Y.M a → G a = none := by
  obtain ⟨vs, h1, h2, h3, h4, h5⟩ := h
  rintro a (rfl | ⟨q, hq⟩)
  · exact h2
  · exact h5 _ hq
/-- a thing that stands anew is not among what may change -/
theorem RowR.newM (h : RowR Y G st H) {p : Addr} (hp : H p = none) : ¬ Y.M p := fun z => by
  obtain ⟨o, q⟩ := h.there p z
  rw [hp] at q; cases q
theorem RowR.codeM (h : RowR Y G st H) {c : Addr} {q : Str} (hc : H c = some (LamX.CodeO c q)) : ¬ Y.M c := by
  obtain ⟨vs, h1, h2, h3, h4, h5⟩ := h
  rintro (rfl | ⟨q, hq⟩)
  · rw [h1] at hc
    exact codeO_lst (Option.some.inj hc).symm
  · obtain ⟨ps, h, _⟩ := h4 _ hq
    rw [h] at hc
    exact LamX.codeO_ne ps (Option.some.inj hc).symm
theorem RowR.mono (h : RowR Y G st H) (e : Ext Y.M G H G' H') (hr : ∀ a, Y.M a → H' a = H a) : RowR Y G' st H' := by
  obtain ⟨vs, h1, h2, h3, h4, h5⟩ := id h
  have nf : ∀ a, Y.M a → G' a = none := fun a ha => by
    cases q : G' a with
    | none => rfl
    | some o =>
      rcases e.n _ _ q with z | z
      · rw [h.free a ha] at z; cases z
      · obtain ⟨u, hu⟩ := h.there a ha
        rw [hu] at z; cases z
  exact ⟨vs, (hr _ (.inl rfl)).trans h1, nf _ (.inl rfl), RpL.mono e.g h3, fun p hp => tabS_keep (h4 p hp) (hr _ (.inr ⟨_, hp⟩)) fun c hc => (e.h _ _ hc (h.codeM hc)).trans hc.symm, fun p hp => nf _ (.inr ⟨_, hp⟩)⟩
/-- the same, a new thing laid -/
theorem RowR.monoN (h : RowR Y G st H) {p : Addr} {o : HO} (e : Ext Y.M G H G' (upd H p o)) (hp : H p = none) : RowR Y G' st (upd H p o) := h.mono e fun a ha => upd_ne fun z => h.newM hp (z ▸ ha)
theorem OwnR.mono {a : Addr} {o : Own} (h : OwnR Y G H a o) (e : Ext Y.M G H G' H') (n : ¬ Y.M a) : OwnR Y G' H' a o := by
  cases o with
  | lst ds => obtain ⟨vs, h1, h2⟩ := h; exact ⟨vs, e.h _ _ h1 n, RpL.mono e.g h2⟩
  | dct ks ws => obtain ⟨o, vs, us, h0, h1, h2, h3⟩ := h; exact ⟨o, vs, us, e.h _ _ h0 n, h1, RpL.mono e.g h2, RpL.mono e.g h3⟩
theorem OwnR.there {a : Addr} {o : Own} (h : OwnR Y G H a o) : ∃ u, H a = some u := by
  cases o with
  | lst ds => obtain ⟨vs, h1, h2⟩ := h; exact ⟨_, h1⟩
  | dct ks ws => obtain ⟨o, vs, us, h0, _⟩ := h; exact ⟨_, h0⟩
theorem Ext.gone {M : Addr → Prop} {G H G' H' : Hp} (e : Ext M G H G' H') {a : Addr} {o : HO} (h1 : G a = none) (h2 : H a = some o) : G' a = none := by
  cases q : G' a with
  | none => rfl
  | some u =>
    rcases e.n _ _ q with z | z
    · rw [h1] at z; cases z
    · rw [h2] at z; cases z
theorem SlotR.mono {x : Option V} {s : Sl} (h : SlotR Y fc Nw G H x s) (e : Ext Y.M G H G' H') : SlotR Y fc Nw G' H' x s := by
  cases s with
  | un => trivial
  | val d => obtain ⟨v, h1, h2⟩ := h; exact ⟨v, h1, Rp.mono e.g h2⟩
  | slf c ks fs =>
    obtain ⟨h1, h2, h3, h4, dx, vs, h5, h6, h7⟩ := h
    exact ⟨h1, e.gone h2 h5, h3, h4, dx, vs, e.h _ _ h5 h3, h6, RpL.mono e.g h7⟩
  | own o =>
    obtain ⟨a, h1, h2, h3, h4, h5⟩ := h
    refine ⟨a, h1, ?_, h3, h4, h5.mono e h3⟩
    cases q : G' a with
    | none => rfl
    | some u =>
      rcases e.n _ _ q with z | z
      · rw [h2] at z; cases z
      · obtain ⟨w, hw⟩ := h5.there
        rw [hw] at z; cases z
theorem ER.ext (h : ER Y fc Nw G env st σ H) (e : Ext Y.M G H G' H') (r : RowR Y G' st' H') : ER Y fc Nw G' env st' σ H' :=
  ⟨e.f, fun i s hs => let ⟨x, h1, h2⟩ := h.sl i s hs; ⟨x, h1, h2.mono e⟩, h.dis, r⟩
end
end DL

set_option Elab.async false
set_option linter.all false
set_option maxRecDepth 100000
namespace DL
open PySem PySem.Spec PyProof.Rows L2

/-- what an exception in flight carries -/
def ExcR (Y : Lay) (G H : Hp) (c : Nat) (fs : List D) (cls : Value) (dx : Option Addr) : Prop :=
  cls = .ref (Y.C c) ∧ ∃ d vs, dx = some d ∧ G d = some (.xd ((Y.fl c).zip vs)) ∧ vs.length = (Y.fl c).length ∧ RpL Y G fs vs

/-- the context of a piece of code -/
structure Ct where
  Y : Lay
  W : WX
  fc : Addr
  Nw : Addr → Prop

section
variable {α β γ δ : Type}
def Post (R : Hp → Hp → α → β → Prop) (Z : Ct) (G : Hp) (σ : L2.St) (H : Hp) (r : Res α) (Q : β → Hp → Prop) : Prop := match r with
  | .ok a st => ∀ v G' H', Ext Z.Y.M G H G' H' → RowR Z.Y G' st H' → R G' H' a v → Q v H'
  | .exc c fs st => ∀ cls dx G' H', Ext Z.Y.M G H G' H' → RowR Z.Y G' st H' → ExcR Z.Y G' H' c fs cls dx → Z.W cls dx σ H'
  | .bad => False
theorem Post.ext {R : Hp → Hp → α → β → Prop} {Z : Ct} {G H G1 H1 : Hp} {σ : L2.St} {r : Res α} {Q : β → Hp → Prop} (h : Post R Z G σ H r Q) (e : Ext Z.Y.M G H G1 H1) (t : ∀ x, Z.Y.M x → ∃ o, H1 x = some o) : Post R Z G1 σ H1 r Q := by
  cases r with
  | ok a st => exact fun v G' H' e' row rel => h v G' H' (e.trans e' t) row rel
  | exc c fs st => exact fun cls dx G' H' e' row ex => h cls dx G' H' (e.trans e' t) row ex
  | bad => exact h
theorem Post.bind {R : Hp → Hp → α → β → Prop} {R' : Hp → Hp → γ → δ → Prop} {Z : Ct} {G H : Hp} {σ : L2.St} {r : Res α} {k : α → List D → Res γ} {Q : δ → Hp → Prop} {T : β → Hp → Prop}
    (h : Post R' Z G σ H (r.bind k) Q)
    (f : ∀ a st v G1 H1, r = .ok a st → Ext Z.Y.M G H G1 H1 → RowR Z.Y G1 st H1 → R G1 H1 a v → Post R' Z G1 σ H1 (k a st) Q → T v H1) : Post R Z G σ H r T := by
  cases r with
  | ok a st => exact fun v G' H' e row rel => f a st v G' H' rfl e row rel (h.ext e row.there)
  | exc c fs st => exact h
  | bad => exact h
theorem Post.imp {R R' : Hp → Hp → α → β → Prop} {Z : Ct} {G H : Hp} {σ : L2.St} {r : Res α} {Q : β → Hp → Prop} (h : Post R' Z G σ H r Q) (i : ∀ G H a v, R G H a v → R' G H a v) : Post R Z G σ H r Q := by
  cases r with
  | ok a st => exact fun v G' H' e row rel => h v G' H' e row (i _ _ _ _ rel)
  | exc c fs st => exact h
  | bad => exact h
/-- the end of a piece: a value, what stands there -/
theorem Post.here {R : Hp → Hp → α → β → Prop} {Z : Ct} {G H : Hp} {σ : L2.St} {a : α} {st : List D} {v : β} {Q : β → Hp → Prop} (h : Post R Z G σ H (.ok a st) Q) (f : Le G H) (r : RowR Z.Y G st H) (q : R G H a v) : Q v H :=
  h v G H (Ext.refl f) r q
/-- a new frozen object -/
theorem Post.new {R : Hp → Hp → α → β → Prop} {Z : Ct} {G H : Hp} {σ : L2.St} {a : α} {st : List D} {v : β} {Q : β → Hp → Prop} {p : Addr} {o : HO} (h : Post R Z G σ H (.ok a st) Q) (f : Le G H) (r : RowR Z.Y G st H) (hp : H p = none)
    (q : R (upd G p o) (upd H p o) a v) : Q v (upd H p o) := by
  have e : Ext Z.Y.M G H (upd G p o) (upd H p o) := Ext.new f hp
  exact h v _ _ e (r.monoN e hp) q
end

/-- a value by what is frozen -/
abbrev rV (Y : Lay) : Hp → Hp → D → V → Prop := fun G _ d v => Rp Y G d v
abbrev rL (Y : Lay) : Hp → Hp → List D → List V → Prop := fun G _ d v => RpL Y G d v
/-- a thing that is looked at: a frozen one, or a list or dict of one's own -/
def Vw (Y : Lay) (G H : Hp) (d : D) (v : V) : Prop := Rp Y G d v ∨
  (∃ ds a vs, d = .lst ds ∧ v = .ref a ∧ ¬ Y.M a ∧ H a = some (.lst vs) ∧ RpL Y G ds vs) ∨
  ∃ ks ws a o vs us, d = .dct ks ws ∧ v = .ref a ∧ ¬ Y.M a ∧ H a = some o ∧ Y.dict a o vs us ∧ RpL Y G ks vs ∧ RpL Y G ws us
theorem Vw.ext {Y : Lay} {G H G' H' : Hp} {d : D} {v : V} (h : Vw Y G H d v) (e : Ext Y.M G H G' H') : Vw Y G' H' d v := by
  rcases h with h | ⟨ds, a, vs, h1, h2, h3, h4, h5⟩ | ⟨ks, ws, a, o, vs, us, h1, h2, h3, h4, h5, h6, h7⟩
  · exact .inl (Rp.mono e.g h)
  · exact .inr (.inl ⟨ds, a, vs, h1, h2, h3, e.h _ _ h4 h3, RpL.mono e.g h5⟩)
  · exact .inr (.inr ⟨ks, ws, a, o, vs, us, h1, h2, h3, e.h _ _ h4 h3, h5, RpL.mono e.g h6, RpL.mono e.g h7⟩)
section
variable (X : Cx) (Z : Ct)
/-- a source: a thing that is looked at -/
def DS (a : Expr) (φ : DEnv → List D → Res D) : Prop :=
  ∃ t, PE X a t ∧ ∀ σ H G env st Q, ER Z.Y Z.fc Z.Nw G env st σ H → Post (Vw Z.Y) Z G σ H (φ env st) Q → t σ H Q
/-- an expression computes φ -/
def DE (a : Expr) (φ : DEnv → List D → Res D) : Prop :=
  ∃ t, PE X a t ∧ ∀ σ H G env st Q, ER Z.Y Z.fc Z.Nw G env st σ H → Post (rV Z.Y) Z G σ H (φ env st) Q → t σ H Q
/-- a test computes a bool -/
def DT (a : Expr) (φ : DEnv → List D → Res Bool) : Prop :=
  ∃ t, PT X a t ∧ ∀ σ H G env st Q, ER Z.Y Z.fc Z.Nw G env st σ H → Post (fun _ _ (d b : Bool) => d = b) Z G σ H (φ env st) Q → t σ H Q
def DW (a : Expr) (φ : DEnv → List D → Res Bool) : Prop :=
  ∃ t, PW X a t ∧ ∀ σ H G env st Q, ER Z.Y Z.fc Z.Nw G env st σ H → Post (fun _ _ (d b : Bool) => d = b) Z G σ H (φ env st) Q → t σ H Q
/-- arguments, items -/
def DA (as : List Expr) (φ : DEnv → List D → Res (List D)) : Prop :=
  ∃ t, PA X as t ∧ ∀ σ H G env st Q, ER Z.Y Z.fc Z.Nw G env st σ H → Post (rL Z.Y) Z G σ H (φ env st) Q → t σ H Q
end

theorem DE.ds {X : Cx} {Z : Ct} {a : Expr} {φ : DEnv → List D → Res D} (h : DE X Z a φ) : DS X Z a φ := by
  obtain ⟨t, p, rd⟩ := h
  exact ⟨t, p, fun σ H G env st Q er po => rd σ H G env st Q er (po.imp fun _ _ _ _ h => .inl h)⟩
/-! ### names, constants -/
section
variable {X : Cx} {Z : Ct} {a b : Expr} {φ ψ : DEnv → List D → Res D} {pos : Pos}
def rdV (i : Nat) (env : DEnv) (st : List D) : Res D := match env[i]? with
  | some (.val d) => .ok d st
  | _ => .bad
theorem de_var {i : Nat} {x : Str} (hN : X.N[i]? = some x) (hv : Vis X.env.scope x) (hd : (x == ("__debug__" : Str)) = false) (hcd : (x == ("__classdict__" : Str)) = false) : DE X Z (.Name x pos) (rdV i) := by
  refine ⟨tVar i, pe_var hN hv hd hcd, fun σ H G env st Q er po => ?_⟩
  unfold rdV at po
  cases he : env[i]? with
  | none => rw [he] at po; exact po.elim
  | some s =>
    rw [he] at po
    cases s with
    | val d =>
      obtain ⟨x', h1, v, h2, h3⟩ := er.sl i _ he
      subst h2
      exact ⟨v, h1, Post.here (v := v) po er.fz er.row h3⟩
    | un => exact po.elim
    | own o => exact po.elim
    | slf c ks fs => exact po.elim
/-- a name whose own list or dict is looked at -/
def rdO (i : Nat) (env : DEnv) (st : List D) : Res D := match env[i]? with
  | some (.val d) => .ok d st
  | some (.own (.lst ds)) => .ok (.lst ds) st
  | some (.own (.dct ks vs)) => .ok (.dct ks vs) st
  | _ => .bad
theorem ds_var {i : Nat} {x : Str} (hN : X.N[i]? = some x) (hv : Vis X.env.scope x) (hd : (x == ("__debug__" : Str)) = false) (hcd : (x == ("__classdict__" : Str)) = false) : DS X Z (.Name x pos) (rdO i) := by
  refine ⟨tVar i, pe_var hN hv hd hcd, fun σ H G env st Q er po => ?_⟩
  unfold rdO at po
  cases he : env[i]? with
  | none => rw [he] at po; exact po.elim
  | some s =>
    rw [he] at po
    obtain ⟨x', h1, h2⟩ := er.sl i _ he
    cases s with
    | val d =>
      obtain ⟨v, h2, h3⟩ := h2
      subst h2
      exact ⟨v, h1, Post.here (v := v) po er.fz er.row (.inl h3)⟩
    | un => exact po.elim
    | own o =>
      obtain ⟨a, h2, h3, h4, h5, h6⟩ := h2
      subst h2
      cases o with
      | lst ds =>
        obtain ⟨vs, h7, h8⟩ := h6
        exact ⟨.ref a, h1, Post.here (v := V.ref a) po er.fz er.row (.inr (.inl ⟨ds, a, vs, rfl, rfl, h4, h7, h8⟩))⟩
      | dct ks ws =>
        obtain ⟨o, vs, us, h7, h8, h9, h10⟩ := h6
        exact ⟨.ref a, h1, Post.here (v := V.ref a) po er.fz er.row (.inr (.inr ⟨ks, ws, a, o, vs, us, rfl, rfl, h4, h7, h8, h9, h10⟩))⟩
    | slf c ks fs => exact po.elim
def lit (d : D) (_ : DEnv) (st : List D) : Res D := .ok d st
theorem de_int {i : Int} {j} : DE X Z (.Constant (.int i) j pos) (lit (.int i)) :=
  ⟨_, pe_int, fun σ H G env st Q er po => Post.here (v := V.int i) po er.fz er.row (rp_int _)⟩
theorem de_bl {i : Bool} {j} : DE X Z (.Constant (.bool i) j pos) (lit (.bl i)) :=
  ⟨_, pe_bl, fun σ H G env st Q er po => Post.here (v := V.bl i) po er.fz er.row (rp_bl _)⟩
theorem de_non {j} : DE X Z (.Constant .none j pos) (lit .non) :=
  ⟨_, pe_non, fun σ H G env st Q er po => Post.here (v := V.non) po er.fz er.row rp_non⟩
theorem de_str {x : Str} {j} : DE X Z (.Constant (.str x) j pos) (lit (.str x.cps.toList)) :=
  ⟨_, pe_str, fun σ H G env st Q er po => Post.here (v := V.str x) po er.fz er.row (rp_str _)⟩
theorem de_glob {x : Str} {v : V} {u : Value} {d : D} (hg : Gl X x) (hm : X.mg x = some u) (r : RelV v u) (hd : (x == ("__debug__" : Str)) = false) (h : ∀ G, Rp Z.Y G d v) : DE X Z (.Name x pos) (lit d) :=
  ⟨_, pe_glob hg hm r hd, fun σ H G env st Q er po => Post.here (v := v) po er.fz er.row (h G)⟩

/-- a tuple of the written part, as a tuple -/
def asTup (φ : DEnv → List D → Res D) (env : DEnv) (st : List D) : Res D := (φ env st).bind fun d st1 => match d with
  | .kon ds => .ok (.tup ds) st1
  | d => .ok d st1
theorem de_asTup (h : DE X Z a φ) : DE X Z a (asTup φ) := by
  obtain ⟨t, p, rd⟩ := h
  refine ⟨t, p, fun σ H G env st Q er po => rd σ H G env st Q er ?_⟩
  unfold asTup at po
  cases hφ : φ env st with
  | ok d st1 =>
    rw [hφ] at po
    intro v G' H' e row rv
    have rv : Rp Z.Y G' d v := rv
    cases d with
    | kon ds =>
      obtain ⟨a0, vs, rfl, h1, _, h2⟩ := kon_inv rv
      exact po _ G' H' e row (rp_tup h1 h2)
    | _ => exact po v G' H' e row rv
  | exc c fs st1 => rw [hφ] at po; exact po
  | bad => rw [hφ] at po; exact po
/-! ### arguments, displays -/
def nilA (_ : DEnv) (st : List D) : Res (List D) := .ok [] st
def consA (φ : DEnv → List D → Res D) (ψ : DEnv → List D → Res (List D)) (env : DEnv) (st : List D) : Res (List D) := (φ env st).bind fun d st1 => (ψ env st1).bind fun ds st2 => .ok (d :: ds) st2
theorem da_nil : DA X Z [] nilA := ⟨_, pa_nil, fun σ H G env st Q er po => Post.here (R := rL Z.Y) (v := []) po er.fz er.row RpL.nil⟩
theorem da_cons {as : List Expr} {ψ : DEnv → List D → Res (List D)} (ha : DE X Z a φ) (hr : DA X Z as ψ) (hs : starEach (a :: as) X.env = (false, eval a X.env) :: starEach as X.env) : DA X Z (a :: as) (consA φ ψ) := by
  obtain ⟨t, p, rd⟩ := ha
  obtain ⟨u, q, rq⟩ := hr
  refine ⟨_, pa_cons p q hs, fun σ H G env st Q er po => ?_⟩
  refine rd σ H G env st _ er (Post.bind po fun d st1 v G1 H1 e x row rv po1 => ?_)
  refine rq σ H1 G1 env st1 _ (er.ext x row) (Post.bind po1 fun ds st2 vs G2 H2 e2 x2 row2 rvs po2 => ?_)
  exact Post.here (R := rL Z.Y) (v := v :: vs) po2 x2.f row2 (RpL.cons (Rp.mono x2.g rv) rvs)
abbrev SZ : Nat := 16777216
theorem sz_line : (sizeLine : Nat) = SZ := sizeLine_eq
def mkT (ψ : DEnv → List D → Res (List D)) (env : DEnv) (st : List D) : Res D := (ψ env st).bind fun ds st1 => if ds.length ≤ SZ then .ok (.tup ds) st1 else .bad
def mkL (ψ : DEnv → List D → Res (List D)) (env : DEnv) (st : List D) : Res D := (ψ env st).bind fun ds st1 => if ds.length ≤ SZ then .ok (.lst ds) st1 else .bad
theorem de_tup {as : List Expr} {ψ : DEnv → List D → Res (List D)} {k : Nat} (ha : DA X Z as ψ) : DE X Z (.Tuple as k pos) (mkT ψ) := by
  obtain ⟨t, p, rd⟩ := ha
  refine ⟨_, pe_tup p, fun σ H G env st Q er po => ?_⟩
  refine rd σ H G env st _ er (Post.bind po fun ds st1 vs G1 H1 e x row rv po1 => ?_)
  by_cases hl : ds.length ≤ SZ
  · rw [if_pos hl] at po1
    refine ⟨by rw [← rv.length, sz_line]; exact hl, fun q hq => Post.new (R := rV Z.Y) po1 x.f row hq ?_⟩
    exact rp_tup (SqT.of upd_same) (RpL.mono (Ext.new (M := Z.Y.M) x.f hq).g rv)
  · rw [if_neg hl] at po1
    exact po1.elim
theorem de_lst {as : List Expr} {ψ : DEnv → List D → Res (List D)} (ha : DA X Z as ψ) : DE X Z (.List as pos) (mkL ψ) := by
  obtain ⟨t, p, rd⟩ := ha
  refine ⟨_, pe_lst p, fun σ H G env st Q er po => ?_⟩
  refine rd σ H G env st _ er (Post.bind po fun ds st1 vs G1 H1 e x row rv po1 => ?_)
  by_cases hl : ds.length ≤ SZ
  · rw [if_pos hl] at po1
    refine ⟨by rw [← rv.length, sz_line]; exact hl, fun q hq => Post.new (R := rV Z.Y) po1 x.f row hq ?_⟩
    exact rp_lst upd_same (RpL.mono (Ext.new (M := Z.Y.M) x.f hq).g rv)
  · rw [if_neg hl] at po1
    exact po1.elim

/-! ### operators: two values -/
/-- what an operator's rule asks, by data: it is met where f tells a value -/
def OpD (Z : Ct) (r : R2) (f : D → D → Option D) : Prop := ∀ x y d e u (G H : Hp) σ st Q, Le G H → RowR Z.Y G st H → Rp Z.Y G d x → Rp Z.Y G e y → f d e = some u → Post (rV Z.Y) Z G σ H (.ok u st) Q → r x y H Q
def ofO (o : Option D) (st : List D) : Res D := match o with
  | some d => .ok d st
  | none => .bad
def opE (f : D → D → Option D) (φ ψ : DEnv → List D → Res D) (env : DEnv) (st : List D) : Res D := (φ env st).bind fun d st1 => (ψ env st1).bind fun e st2 => ofO (f d e) st2
theorem op_read {r : R2} {f : D → D → Option D} (hf : OpD Z r f) {ta tb : TE}
    (rd : ∀ σ H G env st Q, ER Z.Y Z.fc Z.Nw G env st σ H → Post (rV Z.Y) Z G σ H (φ env st) Q → ta σ H Q)
    (rq : ∀ σ H G env st Q, ER Z.Y Z.fc Z.Nw G env st σ H → Post (rV Z.Y) Z G σ H (ψ env st) Q → tb σ H Q) :
    ∀ σ H G env st Q, ER Z.Y Z.fc Z.Nw G env st σ H → Post (rV Z.Y) Z G σ H (opE f φ ψ env st) Q → tOp r ta tb σ H Q := fun σ H G env st Q er po => by
  refine rd σ H G env st _ er (Post.bind po fun d st1 v G1 H1 e x row rv po1 => ?_)
  refine rq σ H1 G1 env st1 _ (er.ext x row) (Post.bind po1 fun ds st2 vs G2 H2 e2 x2 row2 rvs po2 => ?_)
  cases ho : f d ds with
  | none => rw [ho] at po2; exact po2.elim
  | some u =>
    rw [ho] at po2
    exact hf v vs d ds u G2 H2 σ st2 Q x2.f row2 (Rp.mono x2.g rv) rvs ho po2
theorem de_bin {op : Operator} {r : R2} {f : D → D → Option D} (ho : OpR X (binaryOp op) r) (hf : OpD Z r f) (ha : DE X Z a φ) (hb : DE X Z b ψ) : DE X Z (.BinOp a op b pos) (opE f φ ψ) := by
  obtain ⟨t, p, rd⟩ := ha
  obtain ⟨u, q, rq⟩ := hb
  exact ⟨_, pe_op ho p q, op_read hf rd rq⟩
theorem de_cmp {op : CmpOp} {r : R2} {f : D → D → Option D} (ho : OpR X (compareOp op) r) (hf : OpD Z r f) (hm : behindInMarks op b = false) (ha : DE X Z a φ) (hb : DE X Z b ψ) : DE X Z (.Compare a [op] [b] pos) (opE f φ ψ) := by
  obtain ⟨t, p, rd⟩ := ha
  obtain ⟨u, q, rq⟩ := hb
  exact ⟨_, pe_cmpR ho p q hm, op_read hf rd rq⟩
/-! ### tests -/
def asB (d : D) (st : List D) : Res Bool := match d with
  | .bl b => .ok b st
  | _ => .bad
def tst (φ : DEnv → List D → Res D) (env : DEnv) (st : List D) : Res Bool := (φ env st).bind asB
/-- a value's reading gives a bool's -/
theorem post_bl {G H : Hp} {σ : L2.St} {r : Res D} {Q : Bool → Hp → Prop} (po : Post (fun _ _ (d b : Bool) => d = b) Z G σ H (r.bind asB) Q) : Post (rV Z.Y) Z G σ H r (fun x H' => ∃ k, x = .bl k ∧ Q k H') :=
  Post.bind po fun d st v G1 H1 e x row rv po1 => by
    cases d with
    | bl b =>
      have rv := bl_inv rv
      exact ⟨b, rv, Post.here (R := fun _ _ (d b : Bool) => d = b) (v := b) po1 x.f row rfl⟩
    | _ => exact po1.elim
theorem dt_val (ha : DE X Z a φ) (he : ∀ whole, isTrue a X.env whole = (do let v ← whole; standAt a.pos; holding [v] (truthy v))) : DT X Z a (tst φ) := by
  obtain ⟨t, p, rd⟩ := ha
  exact ⟨_, pt_val p he, fun σ H G env st Q er po => rd σ H G env st _ er (post_bl po)⟩
theorem dt_cmp {op : CmpOp} {r : R2} {f : D → D → Option D} (ho : OpR X (compareOp op) r) (hf : OpD Z r f) (hm : behindInMarks op b = false) (ha : DE X Z a φ) (hb : DE X Z b ψ) : DT X Z (.Compare a [op] [b] pos) (tst (opE f φ ψ)) := by
  obtain ⟨t, p, rd⟩ := ha
  obtain ⟨u, q, rq⟩ := hb
  exact ⟨_, pt_cmpR ho p q hm, fun σ H G env st Q er po => op_read hf rd rq σ H G env st _ er (post_bl po)⟩
/-- a ? b ? c -/
def chainE (f g : D → D → Option D) (φ ψ χ : DEnv → List D → Res D) (env : DEnv) (st : List D) : Res D := (φ env st).bind fun d st1 => (ψ env st1).bind fun e st2 => match f d e with
  | some (.bl true) => (χ env st2).bind fun u st3 => ofO (g e u) st3
  | some (.bl false) => .ok (.bl false) st2
  | _ => .bad
theorem chain_read {c : Expr} {χ : DEnv → List D → Res D} {r r' : R2} {f g : D → D → Option D} (hf : OpD Z r f) (hg : OpD Z r' g) {ta tb tc : TE}
    (rd : ∀ σ H G env st Q, ER Z.Y Z.fc Z.Nw G env st σ H → Post (rV Z.Y) Z G σ H (φ env st) Q → ta σ H Q)
    (rq : ∀ σ H G env st Q, ER Z.Y Z.fc Z.Nw G env st σ H → Post (rV Z.Y) Z G σ H (ψ env st) Q → tb σ H Q)
    (rc : ∀ σ H G env st Q, ER Z.Y Z.fc Z.Nw G env st σ H → Post (rV Z.Y) Z G σ H (χ env st) Q → tc σ H Q) :
    ∀ σ H G env st Q, ER Z.Y Z.fc Z.Nw G env st σ H → Post (rV Z.Y) Z G σ H (chainE f g φ ψ χ env st) Q → tChain r r' ta tb tc σ H Q := fun σ H G env st Q er po => by
  refine rd σ H G env st _ er (Post.bind po fun d st1 v G1 H1 e1 x row rv po1 => ?_)
  refine rq σ H1 G1 env st1 _ (er.ext x row) (Post.bind po1 fun e st2 w G2 H2 e2 x2 row2 rw2 po2 => ?_)
  cases ho : f d e with
  | none => rw [ho] at po2; exact po2.elim
  | some u =>
    rw [ho] at po2
    cases u with
    | bl k =>
      refine hf v w d e _ G2 H2 σ st2 _ x2.f row2 (Rp.mono x2.g rv) rw2 ho ?_
      intro z G3 H3 x3 row3 rz
      have rz := bl_inv rz
      refine ⟨k, rz, ?_⟩
      cases k with
      | true =>
        rw [if_pos rfl]
        have po3 := Post.ext po2 x3 row3.there
        refine rc σ H3 G3 env st2 _ (((er.ext x row).ext x2 row2).ext x3 row3) (Post.bind po3 fun u st4 y G4 H4 e4 x4 row4 ry po4 => ?_)
        cases hp : g e u with
        | none => rw [hp] at po4; exact po4.elim
        | some u' =>
          rw [hp] at po4
          exact hg w y e u u' G4 H4 σ st4 Q x4.f row4 (Rp.mono x4.g (Rp.mono x3.g rw2)) ry hp po4
      | false =>
        rw [if_neg Bool.false_ne_true]
        exact po2 (.bl false) G3 H3 x3 row3 (rp_bl _)
    | _ => exact po2.elim
theorem de_chain {c : Expr} {χ : DEnv → List D → Res D} {op op' : CmpOp} {r r' : R2} {f g : D → D → Option D} (ho : OpR X (compareOp op) r) (hf : OpD Z r f) (ho' : OpR X (compareOp op') r') (hg : OpD Z r' g) (hm : lastMarks [op, op'] [b, c] = false)
    (ha : DE X Z a φ) (hb : DE X Z b ψ) (hc : DE X Z c χ) : DE X Z (.Compare a [op, op'] [b, c] pos) (chainE f g φ ψ χ) := by
  obtain ⟨t, p, rd⟩ := ha
  obtain ⟨u, q, rq⟩ := hb
  obtain ⟨w, s, rc⟩ := hc
  exact ⟨_, pe_chain ho ho' p q s hm, chain_read (c := c) hf hg rd rq rc⟩
theorem dt_chain {c : Expr} {χ : DEnv → List D → Res D} {op op' : CmpOp} {r r' : R2} {f g : D → D → Option D} (ho : OpR X (compareOp op) r) (hf : OpD Z r f) (ho' : OpR X (compareOp op') r') (hg : OpD Z r' g) (hm : lastMarks [op, op'] [b, c] = false)
    (ha : DE X Z a φ) (hb : DE X Z b ψ) (hc : DE X Z c χ) : DT X Z (.Compare a [op, op'] [b, c] pos) (tst (chainE f g φ ψ χ)) := by
  obtain ⟨t, p, rd⟩ := ha
  obtain ⟨u, q, rq⟩ := hb
  obtain ⟨w, s, rc⟩ := hc
  exact ⟨_, pt_chain ho ho' p q s hm, fun σ H G env st Q er po => chain_read (c := c) hf hg rd rq rc σ H G env st _ er (post_bl po)⟩

/-! ### and, or, not, if -/
def andE (φ ψ : DEnv → List D → Res D) (env : DEnv) (st : List D) : Res D := (φ env st).bind fun d st1 => match d with
  | .bl true => ψ env st1
  | .bl false => .ok (.bl false) st1
  | _ => .bad
def orE (φ ψ : DEnv → List D → Res D) (env : DEnv) (st : List D) : Res D := (φ env st).bind fun d st1 => match d with
  | .bl false => ψ env st1
  | .bl true => .ok (.bl true) st1
  | _ => .bad
def notE (φ : DEnv → List D → Res D) (env : DEnv) (st : List D) : Res D := (φ env st).bind fun d st1 => match d with
  | .bl b => .ok (.bl (!b)) st1
  | _ => .bad
def iteE (c : DEnv → List D → Res Bool) (φ ψ : DEnv → List D → Res D) (env : DEnv) (st : List D) : Res D := (c env st).bind fun b st1 => match b with
  | true => φ env st1
  | false => ψ env st1
theorem de_one {op} (h : DE X Z a φ) : DE X Z (.BoolOp op [a] pos) φ := by
  obtain ⟨t, p, rd⟩ := h
  exact ⟨_, pe_one p, rd⟩
theorem de_and {rest : List Expr} (ha : DE X Z a φ) (hb : DE X Z (.BoolOp .And (b :: rest) pos) ψ) : DE X Z (.BoolOp .And (a :: b :: rest) pos) (andE φ ψ) := by
  obtain ⟨t, p, rd⟩ := ha
  obtain ⟨u, q, rq⟩ := hb
  refine ⟨_, pe_and p q, fun σ H G env st Q er po => rd σ H G env st _ er (Post.bind po fun d st1 v G1 H1 e1 x row rv po1 => ?_)⟩
  cases d with
  | bl k =>
    have rv := bl_inv rv
    refine ⟨k, rv, ?_⟩
    cases k with
    | true => rw [if_pos rfl]; exact rq σ H1 G1 env st1 _ (er.ext x row) po1
    | false => rw [if_neg Bool.false_ne_true]; exact Post.here (R := rV Z.Y) po1 x.f row (rp_bl _)
  | _ => exact po1.elim
theorem de_or {rest : List Expr} (ha : DE X Z a φ) (hb : DE X Z (.BoolOp .Or (b :: rest) pos) ψ) : DE X Z (.BoolOp .Or (a :: b :: rest) pos) (orE φ ψ) := by
  obtain ⟨t, p, rd⟩ := ha
  obtain ⟨u, q, rq⟩ := hb
  refine ⟨_, pe_or p q, fun σ H G env st Q er po => rd σ H G env st _ er (Post.bind po fun d st1 v G1 H1 e1 x row rv po1 => ?_)⟩
  cases d with
  | bl k =>
    have rv := bl_inv rv
    refine ⟨k, rv, ?_⟩
    cases k with
    | false => rw [if_neg Bool.false_ne_true]; exact rq σ H1 G1 env st1 _ (er.ext x row) po1
    | true => rw [if_pos rfl]; exact Post.here (R := rV Z.Y) po1 x.f row (rp_bl _)
  | _ => exact po1.elim
theorem de_not (ha : DE X Z a φ) : DE X Z (.UnaryOp .Not a pos) (notE φ) := by
  obtain ⟨t, p, rd⟩ := ha
  refine ⟨_, pe_not p, fun σ H G env st Q er po => rd σ H G env st _ er (Post.bind po fun d st1 v G1 H1 e1 x row rv po1 => ?_)⟩
  cases d with
  | bl k =>
    have rv := bl_inv rv
    exact ⟨k, rv, Post.here (R := rV Z.Y) po1 x.f row (rp_bl _)⟩
  | _ => exact po1.elim
theorem de_ite {c : Expr} {χ : DEnv → List D → Res Bool} (hc : DT X Z c χ) (ha : DE X Z a φ) (hb : DE X Z b ψ) : DE X Z (.IfExp c a b pos) (iteE χ φ ψ) := by
  obtain ⟨t, p, rd⟩ := ha
  obtain ⟨u, q, rq⟩ := hb
  obtain ⟨w, s, rc⟩ := hc
  refine ⟨_, pe_ifExp s p q, fun σ H G env st Q er po => rc σ H G env st _ er (Post.bind po fun k st1 v G1 H1 e1 x row rv po1 => ?_)⟩
  subst rv
  cases k with
  | true => rw [if_pos rfl]; exact rd σ H1 G1 env st1 _ (er.ext x row) po1
  | false => rw [if_neg Bool.false_ne_true]; exact rq σ H1 G1 env st1 _ (er.ext x row) po1
/-! as tests -/
def andT (φ ψ : DEnv → List D → Res Bool) (env : DEnv) (st : List D) : Res Bool := (φ env st).bind fun b st1 => match b with
  | true => ψ env st1
  | false => .ok false st1
def orT (φ ψ : DEnv → List D → Res Bool) (env : DEnv) (st : List D) : Res Bool := (φ env st).bind fun b st1 => match b with
  | false => ψ env st1
  | true => .ok true st1
def notT (φ : DEnv → List D → Res Bool) (env : DEnv) (st : List D) : Res Bool := (φ env st).bind fun b st1 => .ok (!b) st1
theorem tst_and : tst (andE φ ψ) = andT (tst φ) (tst ψ) := by
  funext env st
  unfold tst andE andT
  dsimp only
  generalize φ env st = r
  cases r with
  | ok d st1 =>
    cases d with
    | bl k => cases k <;> rfl
    | _ => rfl
  | exc => rfl
  | bad => rfl
theorem tst_or : tst (orE φ ψ) = orT (tst φ) (tst ψ) := by
  funext env st
  unfold tst orE orT
  dsimp only
  generalize φ env st = r
  cases r with
  | ok d st1 =>
    cases d with
    | bl k => cases k <;> rfl
    | _ => rfl
  | exc => rfl
  | bad => rfl
theorem tst_not : tst (notE φ) = notT (tst φ) := by
  funext env st
  unfold tst notE notT
  dsimp only
  generalize φ env st = r
  cases r with
  | ok d st1 => cases d <;> rfl
  | exc => rfl
  | bad => rfl
section
variable {χ ω : DEnv → List D → Res Bool} {rest : List Expr}
theorem DW.pt (h : DW X Z a χ) : DT X Z a χ := by
  obtain ⟨t, p, rd⟩ := h
  exact ⟨_, p.pt, rd⟩
theorem dw_and1 (h : DT X Z a χ) : DW X Z (.BoolOp .And [a] pos) χ := by
  obtain ⟨t, p, rd⟩ := h
  exact ⟨_, pw_and1 p, rd⟩
theorem dw_or1 (h : DT X Z a χ) : DW X Z (.BoolOp .Or [a] pos) χ := by
  obtain ⟨t, p, rd⟩ := h
  exact ⟨_, pw_or1 p, rd⟩
theorem dw_and (ha : DT X Z a χ) (hb : DW X Z (.BoolOp .And (b :: rest) pos) ω) : DW X Z (.BoolOp .And (a :: b :: rest) pos) (andT χ ω) := by
  obtain ⟨t, p, rd⟩ := ha
  obtain ⟨u, q, rq⟩ := hb
  refine ⟨_, pw_and p q, fun σ H G env st Q er po => rd σ H G env st _ er (Post.bind po fun k st1 v G1 H1 e1 x row rv po1 => ?_)⟩
  subst rv
  cases k with
  | true => rw [if_pos rfl]; exact rq σ H1 G1 env st1 _ (er.ext x row) po1
  | false => rw [if_neg Bool.false_ne_true]; exact Post.here (R := fun _ _ (d b : Bool) => d = b) po1 x.f row rfl
theorem dw_or (ha : DT X Z a χ) (hb : DW X Z (.BoolOp .Or (b :: rest) pos) ω) : DW X Z (.BoolOp .Or (a :: b :: rest) pos) (orT χ ω) := by
  obtain ⟨t, p, rd⟩ := ha
  obtain ⟨u, q, rq⟩ := hb
  refine ⟨_, pw_or p q, fun σ H G env st Q er po => rd σ H G env st _ er (Post.bind po fun k st1 v G1 H1 e1 x row rv po1 => ?_)⟩
  subst rv
  cases k with
  | false => rw [if_neg Bool.false_ne_true]; exact rq σ H1 G1 env st1 _ (er.ext x row) po1
  | true => rw [if_pos rfl]; exact Post.here (R := fun _ _ (d b : Bool) => d = b) po1 x.f row rfl
theorem dt_not (h : DT X Z a χ) : DT X Z (.UnaryOp .Not a pos) (notT χ) := by
  obtain ⟨t, p, rd⟩ := h
  refine ⟨_, pt_not p, fun σ H G env st Q er po => rd σ H G env st _ er (Post.bind po fun k st1 v G1 H1 e1 x row rv po1 => ?_)⟩
  subst rv
  exact Post.here (R := fun _ _ (d b : Bool) => d = b) po1 x.f row rfl
end
end
end DL

set_option Elab.async false
set_option linter.all false
set_option maxRecDepth 100000
namespace DL
open PySem PySem.Spec PyProof.Rows L2

/-! ### plain data, == -/
def okD : Nat → D → Bool
  | _, .non => true
  | _, .bl _ => true
  | _, .int _ => true
  | _, .str l => l.all (fun c => decide (c < 1114112))
  | n + 1, .tup xs => xs.all (okD n)
  | n + 1, .lst xs => xs.all (okD n)
  | _, _ => false
def toPy : Nat → D → PyData
  | _, .non => .none
  | _, .bl b => .bool b
  | _, .int i => .int i
  | _, .str l => .str (S l)
  | n + 1, .tup xs => .tuple (xs.map (toPy n))
  | n + 1, .lst xs => .list (xs.map (toPy n))
  | _, _ => .none
def allEq (f : D → D → Bool) : List D → List D → Bool
  | [], [] => true
  | x :: xs, y :: ys => f x y && allEq f xs ys
  | _, _ => false
def deq : Nat → D → D → Bool
  | _, .non, .non => true
  | _, .bl a, .bl b => a == b
  | _, .bl a, .int j => (if a then 1 else 0) == j
  | _, .int i, .bl b => i == (if b then 1 else 0)
  | _, .int i, .int j => i == j
  | _, .str a, .str b => a == b
  | n + 1, .tup xs, .tup ys => allEq (deq n) xs ys
  | n + 1, .lst xs, .lst ys => allEq (deq n) xs ys
  | _, _, _ => false
theorem str_beq (a b : List Nat) : ((S a : Str) == S b) = (a == b) := by
  rw [Bool.eq_iff_iff]
  constructor
  · intro h
    have h1 : (S a : Str) = S b := by simpa using h
    have h2 := congrArg (fun z : Str => z.cps.toList) h1
    simpa using h2
  · intro h
    have h1 : a = b := by simpa using h
    subst h1
    simp
theorem eqvAll_map (n : Nat) (ih : ∀ d e, okD n d = true → okD n e = true → PyData.eqv (toPy n d) (toPy n e) = deq n d e) :
    ∀ xs ys : List D, xs.all (okD n) = true → ys.all (okD n) = true → PyData.eqvAll (xs.map (toPy n)) (ys.map (toPy n)) = allEq (deq n) xs ys
  | [], [], _, _ => by simp [PyData.eqvAll, allEq]
  | [], y :: ys, _, _ => by simp [PyData.eqvAll, allEq]
  | x :: xs, [], _, _ => by simp [PyData.eqvAll, allEq]
  | x :: xs, y :: ys, h1, h2 => by
    rw [List.all_cons, Bool.and_eq_true] at h1 h2
    simp only [List.map_cons, PyData.eqvAll, allEq]
    rw [ih x y h1.1 h2.1, eqvAll_map n ih xs ys h1.2 h2.2]
theorem eqv_deq : ∀ (n : Nat) (d e : D), okD n d = true → okD n e = true → PyData.eqv (toPy n d) (toPy n e) = deq n d e
  | 0, d, e, h1, h2 => by
    cases d <;> cases e <;> simp_all [okD, toPy, deq, PyData.eqv, str_beq]
  | n + 1, d, e, h1, h2 => by
    have ih := eqvAll_map n (eqv_deq n)
    cases d <;> cases e <;> simp_all [okD, toPy, deq, PyData.eqv, str_beq]
theorem canLay_D : ∀ (n : Nat) (d : D), okD n d = true → (toPy n d).canLay0 = true ∧ (toPy n d).depth ≤ n
  | 0, d, h => by
    cases d <;> simp_all [okD, toPy, PyData.canLay0, PyData.depth, PyData.strOk]
  | n + 1, d, h => by
    have all : ∀ xs : List D, xs.all (okD n) = true → PyData.canLayAll0 (xs.map (toPy n)) = true ∧ PyData.depthAll (xs.map (toPy n)) ≤ n := by
      intro xs
      induction xs with
      | nil => intro _; simp [PyData.canLayAll0, PyData.depthAll]
      | cons x xs ih =>
        intro h
        rw [List.all_cons, Bool.and_eq_true] at h
        obtain ⟨a1, a2⟩ := canLay_D n x h.1
        obtain ⟨b1, b2⟩ := ih h.2
        simp only [List.map_cons, PyData.canLayAll0, PyData.depthAll, a1, b1, Bool.and_self, true_and]
        exact Nat.max_le.mpr ⟨a2, b2⟩
    cases d with
    | tup xs =>
      obtain ⟨a, b⟩ := all xs (by simpa [okD] using h)
      simp only [toPy, PyData.canLay0, PyData.depth, a, true_and]
      omega
    | lst xs =>
      obtain ⟨a, b⟩ := all xs (by simpa [okD] using h)
      simp only [toPy, PyData.canLay0, PyData.depth, a, true_and]
      omega
    | _ => simp_all [okD, toPy, PyData.canLay0, PyData.depth, PyData.strOk]
theorem shaped_D {n : Nat} {d : D} (hn : n ≤ 64) (h : okD n d = true) : SeqAt.shaped (toPy n d) = true := by
  obtain ⟨a, b⟩ := canLay_D n d h
  unfold SeqAt.shaped
  rw [a, Bool.true_and]
  exact decide_eq_true (Nat.le_trans b hn)
section
variable {Y : Lay} {G H : Hp}
theorem SqT.le {K : PySem.W.Frag} {a : Addr} {xs : List V} (f : Le G H) (h : SqT K G a xs) : SqT K H a xs := SqT.mono f h
theorem dp_of (f : Le G H) : ∀ (n : Nat) (d : D) (v : V), okD n d = true → Rp Y G d v → Dp Y.K H v (toPy n d)
  | n, .non, v, _, r => by
    rw [Rp] at r; subst r
    cases n <;> exact Dp.non
  | n, .bl b, v, _, r => by
    rw [Rp] at r; subst r
    cases n <;> exact Dp.bl b
  | n, .int i, v, _, r => by
    rw [Rp] at r; subst r
    cases n <;> exact Dp.int i
  | n, .str l, v, _, r => by
    rw [Rp] at r; subst r
    cases n <;> exact Dp.str _
  | 0, .tup xs, v, h, _ => by simp [okD] at h
  | 0, .lst xs, v, h, _ => by simp [okD] at h
  | n + 1, .tup xs, v, h, r => by
    rw [Rp] at r
    obtain ⟨a, vs, rfl, h2, h3⟩ := r
    have hx : xs.all (okD n) = true := by simpa [okD] using h
    refine Dp.tup (SqT.mono f h2) ?_
    clear h h2
    induction xs generalizing vs with
    | nil => rw [h3.nil_inv]; exact DpAll.nil
    | cons x xs ih =>
      obtain ⟨v, r, rfl, hv, t⟩ := h3.cons_inv
      rw [List.all_cons, Bool.and_eq_true] at hx
      exact DpAll.cons (dp_of f n x v hx.1 hv) (ih r t hx.2)
  | n + 1, .lst xs, v, h, r => by
    rw [Rp] at r
    obtain ⟨a, vs, rfl, h2, h3⟩ := r
    have hx : xs.all (okD n) = true := by simpa [okD] using h
    refine Dp.lst (SqL.of (f _ _ h2)) ?_
    clear h h2
    induction xs generalizing vs with
    | nil => rw [h3.nil_inv]; exact DpAll.nil
    | cons x xs ih =>
      obtain ⟨v, r, rfl, hv, t⟩ := h3.cons_inv
      rw [List.all_cons, Bool.and_eq_true] at hx
      exact DpAll.cons (dp_of f n x v hx.1 hv) (ih r t hx.2)
  | n, .dct _ _, v, h, _ => by cases n <;> simp [okD] at h
  | n, .obj _ _, v, h, _ => by cases n <;> simp [okD] at h
  | n, .fn _, v, h, _ => by cases n <;> simp [okD] at h
  | n, .row, v, h, _ => by cases n <;> simp [okD] at h
  | n, .scr _, v, h, _ => by cases n <;> simp [okD] at h
  | n, .kon _, v, h, _ => by cases n <;> simp [okD] at h
  | n, .exn _ _, v, h, _ => by cases n <;> simp [okD] at h
  | n, .exo _ _, v, h, _ => by cases n <;> simp [okD] at h
end

/-! ### arithmetic by data -/
def oAdd : D → D → Option D
  | .int i, .int j => some (.int (i + j))
  | .str a, .str b => if a.length + b.length ≤ SZ then some (.str (a ++ b)) else none
  | .tup a, .tup b => if a.length + b.length ≤ SZ then some (.tup (a ++ b)) else none
  | .lst a, .lst b => if a.length + b.length ≤ SZ then some (.lst (a ++ b)) else none
  | _, _ => none
def oSub : D → D → Option D
  | .int i, .int j => some (.int (i - j))
  | _, _ => none
def repL (k : Nat) (xs : List D) : List D := (List.replicate k xs).flatten
def oMul : D → D → Option D
  | .int i, .int j => if (-(2 ^ 64) < i ∧ i < 2 ^ 64) ∨ (-(2 ^ 64) < j ∧ j < 2 ^ 64) then some (.int (i * j)) else none
  | .tup a, .int k => if a ≠ [] ∧ 2 ≤ k ∧ k ≤ 1000 ∧ a.length ≤ 1000 then some (.tup (repL k.toNat a)) else none
  | .lst a, .int k => if -(2 ^ 63) ≤ k ∧ k < 2 ^ 63 ∧ a.length * k.toNat ≤ SZ then some (.lst (repL k.toNat a)) else none
  | _, _ => none
def oDiv : D → D → Option D
  | .int i, .int j => if 0 < j ∧ j < 1073741824 then some (.int (i / j)) else none
  | _, _ => none
def oMod : D → D → Option D
  | .int i, .int j => if 0 < j then some (.int (i % j)) else none
  | _, _ => none
def oPow : D → D → Option D
  | .int i, .int j => if 0 ≤ j ∧ j ≤ 1000000 ∧ i.natAbs < 2 ^ 64 then some (.int (i ^ j.toNat)) else none
  | _, _ => none
def oShl : D → D → Option D
  | .int i, .int j => if 0 ≤ j ∧ j ≤ 1000000 ∧ i.natAbs < 2 ^ 64 then some (.int (i * 2 ^ j.toNat)) else none
  | _, _ => none
def oShr : D → D → Option D
  | .int i, .int j => if 0 ≤ j then some (.int (i / 2 ^ j.toNat)) else none
  | _, _ => none
def oAnd : D → D → Option D
  | .int i, .int j => some (.int (Builtin.bitAnd i j))
  | _, _ => none
def oOr : D → D → Option D
  | .int i, .int j => some (.int (Builtin.bitOr i j))
  | _, _ => none
section
variable {X : Cx} {Z : Ct}
/-- two ints -/
theorem od_int {r : R2} {f : D → D → Option D} {C : Int → Int → Prop} {g : Int → Int → Int} (hr : r = rI C fun i j => .int (g i j)) (hf : ∀ d e u, f d e = some u → ∃ i j, d = .int i ∧ e = .int j ∧ C i j ∧ u = .int (g i j)) : OpD Z r f := by
  subst hr
  intro x y d e u G H σ st Q fz row rx ry h po
  obtain ⟨i, j, rfl, rfl, hc, rfl⟩ := hf d e u h
  rw [int_inv rx, int_inv ry]
  exact ⟨i, j, rfl, rfl, hc, Post.here (R := rV Z.Y) po fz row (rp_int _)⟩
theorem od_int0 {r : R2} {f : D → D → Option D} {g : Int → Int → Int} (hr : r = rI0 fun i j => .int (g i j)) (hf : ∀ d e u, f d e = some u → ∃ i j, d = .int i ∧ e = .int j ∧ u = .int (g i j)) : OpD Z r f := by
  subst hr
  intro x y d e u G H σ st Q fz row rx ry h po
  obtain ⟨i, j, rfl, rfl, rfl⟩ := hf d e u h
  rw [int_inv rx, int_inv ry]
  exact ⟨i, j, rfl, rfl, Post.here (R := rV Z.Y) po fz row (rp_int _)⟩
theorem od_cmp0 {r : R2} {f : D → D → Option D} {g : Int → Int → Bool} (hr : r = rI0 fun i j => .bl (g i j)) (hf : ∀ d e u, f d e = some u → ∃ i j, d = .int i ∧ e = .int j ∧ u = .bl (g i j)) : OpD Z r f := by
  subst hr
  intro x y d e u G H σ st Q fz row rx ry h po
  obtain ⟨i, j, rfl, rfl, rfl⟩ := hf d e u h
  rw [int_inv rx, int_inv ry]
  exact ⟨i, j, rfl, rfl, Post.here (R := rV Z.Y) po fz row (rp_bl _)⟩
/-- two roads by kinds -/
theorem od_add : OpD Z (fun x y H Q => rI0 (fun i j => .int (i + j)) x y H Q ∨ ((∃ i j, x = .str i ∧ y = .str j ∧ i.length + j.length ≤ sizeLine ∧ Q (.str (i ++ j)) H) ∨ (rCatA Z.Y.K x y H Q ∨ rCat x y H Q))) oAdd := by
  intro x y d e u G H σ st Q fz row rx ry h po
  unfold oAdd at h
  split at h
  · cases h
    rw [int_inv rx, int_inv ry]
    exact .inl ⟨_, _, rfl, rfl, Post.here (R := rV Z.Y) po fz row (rp_int _)⟩
  · rename_i a b
    split at h
    · cases h
      rename_i hl
      rw [str_inv rx, str_inv ry]
      refine .inr (.inl ⟨S a, S b, rfl, rfl, ?_, Post.here (R := rV Z.Y) po fz row ?_⟩)
      · rw [sz_line]
        simpa [Str.length] using hl
      · have e : (S a ++ S b : Str) = S (a ++ b) := by
          show Str.append (S a) (S b) = _
          simp [Str.append, S]
        rw [e]
        exact rp_str _
    · cases h
  · rename_i a b
    split at h
    · cases h
      rename_i hl
      obtain ⟨p, vs, rfl, hp, rvs⟩ := tup_inv rx
      obtain ⟨q, us, rfl, hq, rus⟩ := tup_inv ry
      have l1 := rvs.length
      have l2 := rus.length
      refine .inr (.inr (.inl ⟨p, q, vs, us, rfl, rfl, SqT.mono fz hp, SqT.mono fz hq, by rw [sz_line, ← l1, ← l2]; exact hl, fun e => ?_, fun ne e => ?_, fun ne ne2 w hw => ?_⟩))
      · subst e
        have : a = [] := by cases a with
          | nil => rfl
          | cons _ _ => simp at l1
        subst this
        exact Post.here (R := rV Z.Y) (v := .ref q) po fz row (rp_tup hq (by simpa using rus))
      · subst e
        have : b = [] := by cases b with
          | nil => rfl
          | cons _ _ => simp at l2
        subst this
        exact Post.here (R := rV Z.Y) (v := .ref p) po fz row (rp_tup hp (by simpa using rvs))
      · refine Post.new (R := rV Z.Y) po fz row hw ?_
        exact rp_tup (SqT.of upd_same) (RpL.mono (Ext.new (M := Z.Y.M) fz hw).g (rvs.append rus))
    · cases h
  · rename_i a b
    split at h
    · cases h
      rename_i hl
      obtain ⟨p, vs, rfl, hp, rvs⟩ := lst_inv rx
      obtain ⟨q, us, rfl, hq, rus⟩ := lst_inv ry
      have l1 := rvs.length
      have l2 := rus.length
      refine .inr (.inr (.inr ⟨p, q, vs, us, rfl, rfl, fz _ _ hp, fz _ _ hq, by rw [sz_line, ← l1, ← l2]; exact hl, fun w hw => ?_⟩))
      refine Post.new (R := rV Z.Y) po fz row hw ?_
      exact rp_lst upd_same (RpL.mono (Ext.new (M := Z.Y.M) fz hw).g (rvs.append rus))
    · cases h
  · cases h
theorem op_addA (X : Cx) : OpR X (binaryOp .Add) (fun x y H Q => rI0 (fun i j => .int (i + j)) x y H Q ∨ ((∃ i j, x = .str i ∧ y = .str j ∧ i.length + j.length ≤ sizeLine ∧ Q (.str (i ++ j)) H) ∨ (rCatA X.K x y H Q ∨ rCat x y H Q))) :=
  OpR.or op_add (OpR.or op_add_str (OpR.or op_catA op_cat))
theorem od_sub : OpD Z (rI0 fun i j => .int (i - j)) oSub := od_int0 rfl fun d e u h => by
  unfold oSub at h
  split at h
  · cases h; exact ⟨_, _, rfl, rfl, rfl⟩
  · cases h
theorem rep_RpL {Y : Lay} {G : Hp} {ds : List D} {vs : List V} (h : RpL Y G ds vs) : ∀ k : Nat, RpL Y G (repL k ds) (List.replicate k vs).flatten
  | 0 => by simp [repL, RpL.nil]
  | k + 1 => by
    have := rep_RpL h k
    unfold repL at this ⊢
    simp only [List.replicate_succ, List.flatten_cons]
    exact h.append this
theorem od_mul : OpD Z (fun x y H Q => rI CMul (fun i j => .int (i * j)) x y H Q ∨ (rRepT Z.Y.K x y H Q ∨ rRep x y H Q)) oMul := by
  intro x y d e u G H σ st Q fz row rx ry h po
  unfold oMul at h
  split at h
  · split at h
    · cases h
      rename_i hc
      rw [int_inv rx, int_inv ry]
      exact .inl ⟨_, _, rfl, rfl, hc, Post.here (R := rV Z.Y) po fz row (rp_int _)⟩
    · cases h
  · rename_i a k
    split at h
    · cases h
      rename_i hc
      obtain ⟨p, vs, rfl, hp, rvs⟩ := tup_inv rx
      rw [int_inv ry]
      have l1 := rvs.length
      refine .inr (.inl ⟨p, k, vs, rfl, rfl, SqT.mono fz hp, fun e => hc.1 ?_, hc.2.1, hc.2.2.1, by rw [← l1]; exact hc.2.2.2, fun w hw => ?_⟩)
      · subst e
        cases a with
        | nil => rfl
        | cons _ _ => simp at l1
      · refine Post.new (R := rV Z.Y) po fz row hw ?_
        exact rp_tup (SqT.of upd_same) (RpL.mono (Ext.new (M := Z.Y.M) fz hw).g (rep_RpL rvs _))
    · cases h
  · rename_i a k
    split at h
    · cases h
      rename_i hc
      obtain ⟨p, vs, rfl, hp, rvs⟩ := lst_inv rx
      rw [int_inv ry]
      have l1 := rvs.length
      refine .inr (.inr ⟨p, k, vs, rfl, rfl, fz _ _ hp, hc.1, hc.2.1, by rw [sz_line, ← l1]; exact hc.2.2, fun w hw => ?_⟩)
      refine Post.new (R := rV Z.Y) po fz row hw ?_
      exact rp_lst upd_same (RpL.mono (Ext.new (M := Z.Y.M) fz hw).g (rep_RpL rvs _))
    · cases h
  · cases h
theorem op_mulA (X : Cx) : OpR X (binaryOp .Mult) (fun x y H Q => rI CMul (fun i j => .int (i * j)) x y H Q ∨ (rRepT X.K x y H Q ∨ rRep x y H Q)) := OpR.or op_mul (OpR.or op_repT op_rep)
theorem od_div : OpD Z (rI CDiv fun i j => .int (i / j)) oDiv := od_int rfl fun d e u h => by
  unfold oDiv at h
  split at h
  · split at h
    · cases h; exact ⟨_, _, rfl, rfl, by assumption, rfl⟩
    · cases h
  · cases h
theorem od_mod : OpD Z (rI (fun _ j => 0 < j) fun i j => .int (i % j)) oMod := od_int rfl fun d e u h => by
  unfold oMod at h
  split at h
  · split at h
    · cases h; exact ⟨_, _, rfl, rfl, by assumption, rfl⟩
    · cases h
  · cases h
theorem od_pow : OpD Z (rI CPow fun i j => .int (i ^ j.toNat)) oPow := od_int rfl fun d e u h => by
  unfold oPow at h
  split at h
  · split at h
    · cases h; exact ⟨_, _, rfl, rfl, by assumption, rfl⟩
    · cases h
  · cases h
theorem od_shl : OpD Z (rI CPow fun i j => .int (i * 2 ^ j.toNat)) oShl := od_int rfl fun d e u h => by
  unfold oShl at h
  split at h
  · split at h
    · cases h; exact ⟨_, _, rfl, rfl, by assumption, rfl⟩
    · cases h
  · cases h
theorem od_shr : OpD Z (rI (fun _ j => 0 ≤ j) fun i j => .int (i / 2 ^ j.toNat)) oShr := od_int rfl fun d e u h => by
  unfold oShr at h
  split at h
  · split at h
    · cases h; exact ⟨_, _, rfl, rfl, by assumption, rfl⟩
    · cases h
  · cases h
theorem od_and : OpD Z (rI0 fun i j => .int (Builtin.bitAnd i j)) oAnd := od_int0 rfl fun d e u h => by
  unfold oAnd at h
  split at h
  · cases h; exact ⟨_, _, rfl, rfl, rfl⟩
  · cases h
theorem od_or : OpD Z (rI0 fun i j => .int (Builtin.bitOr i j)) oOr := od_int0 rfl fun d e u h => by
  unfold oOr at h
  split at h
  · cases h; exact ⟨_, _, rfl, rfl, rfl⟩
  · cases h

/-! ### comparisons by data -/
def oLt : D → D → Option D
  | .int i, .int j => some (.bl (decide (i < j)))
  | _, _ => none
def oLe : D → D → Option D
  | .int i, .int j => some (.bl (decide (i ≤ j)))
  | _, _ => none
def oGt : D → D → Option D
  | .int i, .int j => some (.bl (decide (j < i)))
  | _, _ => none
def oGe : D → D → Option D
  | .int i, .int j => some (.bl (decide (j ≤ i)))
  | _, _ => none
theorem od_lt : OpD Z (rI0 fun i j => .bl (decide (i < j))) oLt := od_cmp0 rfl fun d e u h => by
  unfold oLt at h
  split at h
  · cases h; exact ⟨_, _, rfl, rfl, rfl⟩
  · cases h
theorem od_le : OpD Z (rI0 fun i j => .bl (decide (i ≤ j))) oLe := od_cmp0 rfl fun d e u h => by
  unfold oLe at h
  split at h
  · cases h; exact ⟨_, _, rfl, rfl, rfl⟩
  · cases h
theorem od_gt : OpD Z (rI0 fun i j => .bl (decide (j < i))) oGt := od_cmp0 rfl fun d e u h => by
  unfold oGt at h
  split at h
  · cases h; exact ⟨_, _, rfl, rfl, rfl⟩
  · cases h
theorem od_ge : OpD Z (rI0 fun i j => .bl (decide (j ≤ i))) oGe := od_cmp0 rfl fun d e u h => by
  unfold oGe at h
  split at h
  · cases h; exact ⟨_, _, rfl, rfl, rfl⟩
  · cases h
abbrev DP : Nat := 12
def oEq (d e : D) : Option D := if (okD DP d && okD DP e) = true then some (.bl (deq DP d e)) else none
def oNe (d e : D) : Option D := if (okD DP d && okD DP e) = true then some (.bl (!deq DP d e)) else none
theorem od_eq : OpD Z (rEqD Z.Y.K) oEq := by
  intro x y d e u G H σ st Q fz row rx ry h po
  unfold oEq at h
  split at h
  · rename_i hk
    cases h
    rw [Bool.and_eq_true] at hk
    exact ⟨_, _, dp_of fz DP d x hk.1 rx, dp_of fz DP e y hk.2 ry, shaped_D (by decide) hk.1, shaped_D (by decide) hk.2, by rw [eqv_deq DP d e hk.1 hk.2]; exact Post.here (R := rV Z.Y) po fz row (rp_bl _)⟩
  · cases h
theorem od_ne : OpD Z (rNeD Z.Y.K) oNe := by
  intro x y d e u G H σ st Q fz row rx ry h po
  unfold oNe at h
  split at h
  · rename_i hk
    cases h
    rw [Bool.and_eq_true] at hk
    exact ⟨_, _, dp_of fz DP d x hk.1 rx, dp_of fz DP e y hk.2 ry, shaped_D (by decide) hk.1, shaped_D (by decide) hk.2, by rw [eqv_deq DP d e hk.1 hk.2]; exact Post.here (R := rV Z.Y) po fz row (rp_bl _)⟩
  · cases h
/-- is, is not: None and bools on the right -/
def isNonD : D → Bool
  | .non => true
  | _ => false
def oIs : D → D → Option D
  | d, .non => some (.bl (isNonD d))
  | .bl a, .bl b => some (.bl (decide (a = b)))
  | _, _ => none
def oIsN : D → D → Option D
  | d, .non => some (.bl (!isNonD d))
  | .bl a, .bl b => some (.bl (!decide (a = b)))
  | _, _ => none
theorem isNon_of {Y : Lay} {G : Hp} {d : D} {v : V} (h : Rp Y G d v) : decide (v = V.non) = isNonD d := by
  cases d with
  | non => rw [Rp] at h; subst h; simp [isNonD]
  | bl b => rw [Rp] at h; subst h; simp [isNonD]
  | int b => rw [Rp] at h; subst h; simp [isNonD]
  | str b => rw [Rp] at h; subst h; simp [isNonD]
  | fn b => rw [Rp] at h; subst h; simp [isNonD]
  | row => rw [Rp] at h; subst h; simp [isNonD]
  | tup b => rw [Rp] at h; obtain ⟨a, vs, rfl, _⟩ := h; simp [isNonD]
  | lst b => rw [Rp] at h; obtain ⟨a, vs, rfl, _⟩ := h; simp [isNonD]
  | scr b => rw [Rp] at h; obtain ⟨a, vs, rfl, _⟩ := h; simp [isNonD]
  | kon b => rw [Rp] at h; obtain ⟨a, vs, rfl, _⟩ := h; simp [isNonD]
  | dct b c => rw [Rp] at h; obtain ⟨a, o, vs, us, rfl, _⟩ := h; simp [isNonD]
  | obj b c => rw [Rp] at h; obtain ⟨a, dx, vs, rfl, _⟩ := h; simp [isNonD]
  | exn b c => rw [Rp] at h; obtain ⟨a, dx, vs, rfl, _⟩ := h; simp [isNonD]
  | exo b c => rw [Rp] at h; obtain ⟨a, dx, vs, rfl, _⟩ := h; simp [isNonD]
theorem od_is : OpD Z (fun x y H Q => (y = .non ∧ Q (.bl (decide (x = .non))) H) ∨ rIsB x y H Q) oIs := by
  intro x y d e u G H σ st Q fz row rx ry h po
  unfold oIs at h
  split at h
  · cases h
    exact .inl ⟨non_inv ry, by rw [isNon_of rx]; exact Post.here (R := rV Z.Y) po fz row (rp_bl _)⟩
  · cases h
    exact .inr ⟨_, _, bl_inv rx, bl_inv ry, Post.here (R := rV Z.Y) po fz row (rp_bl _)⟩
  · cases h
theorem od_isn : OpD Z (fun x y H Q => (y = .non ∧ Q (.bl (!decide (x = .non))) H) ∨ rNotB x y H Q) oIsN := by
  intro x y d e u G H σ st Q fz row rx ry h po
  unfold oIsN at h
  split at h
  · cases h
    exact .inl ⟨non_inv ry, by rw [isNon_of rx]; exact Post.here (R := rV Z.Y) po fz row (rp_bl _)⟩
  · cases h
    exact .inr ⟨_, _, bl_inv rx, bl_inv ry, Post.here (R := rV Z.Y) po fz row (rp_bl _)⟩
  · cases h
theorem op_isA (X : Cx) : OpR X (compareOp .Is) (fun x y H Q => (y = .non ∧ Q (.bl (decide (x = .non))) H) ∨ rIsB x y H Q) := OpR.or op_isN op_isBl
theorem op_isnA (X : Cx) : OpR X (compareOp .IsNot) (fun x y H Q => (y = .non ∧ Q (.bl (!decide (x = .non))) H) ∨ rNotB x y H Q) := OpR.or op_notN op_notBl
end
end DL

set_option Elab.async false
set_option linter.all false
set_option maxRecDepth 100000
namespace PySem
open PyProof.Rows PySem.W
section
variable {prog : Program} {w : World} {A : Around} {E : Value → Shared → Prop} {s : Shared} {l : Addr} {its : List Value} {ns : List Int} {Q : Value → Shared → Prop}
/-- sum(t), t a tuple of ints -/
theorem sum_tupleG (hh : A.handled = none) (hl : s.heap.IsTuple l its.toArray) (hi : IntsAre its ns)
    (h : ∀ h' tk t', (∀ b o, s.heap.get? b = some o → h'.get? b = some o) → Q (.int ns.sum t') { s with heap := h', toks := tk }) : wpAny (model prog w) A (call (.builtin "sum") [.ref l]) Q E s := by
  obtain ⟨xs, e⟩ := hi.allInts.items
  have hn : numsOf (intItems xs).toList = ns := by rw [← e]; exact hi.numsOf
  rw [nums_intItems] at hn
  rw [e] at hl
  have hlt : l < s.heap.objs.size := by obtain ⟨_, e, _⟩ := hl; exact Heap.lt_size e
  refine call_sum_walkG (wpAny_pyIter_tuple hl ?_)
  refine ⟨_, _, _, _, _, _, numAt xs, rfl, Walks.tuple (A := A.in1) hh _ l (Nat.ne_of_lt hlt) (intItems xs), ⟨⟨_, Heap.get?_push_size _ rfl, rfl, rfl⟩, hl.push _⟩, fun b hb => ?_, (fun _ _ => intItems_at), fun h' tk t' hk => ?_⟩
  · show b < (s.heap.push _).objs.size
    rw [Heap.size_push]
    rcases List.mem_cons.mp hb with rfl | hb
    · exact Nat.lt_succ_self _
    · rcases List.mem_cons.mp hb with rfl | hb
      · exact Nat.lt_succ_of_lt hlt
      · cases hb
  · have := h h' tk t' fun b o e => hk b o (by simp; exact Nat.ne_of_lt (Heap.lt_size e)) (Heap.get?_push_of_some _ e)
    rw [preSum_eq, List.take_of_length_le (by simp [intItems]), hn]
    exact this
end
end PySem
namespace DL
open PySem PySem.Spec PyProof.Rows L2

section
variable {X : Cx} {Z : Ct} {a b : Expr} {φ ψ : DEnv → List D → Res D} {pos : Pos}
/-- the items of a thing that is looked at -/
def sq (st : List D) : D → Option (List D)
  | .tup ds => some ds
  | .lst ds => some ds
  | .scr ds => some ds
  | .row => some st
  | _ => none
theorem vw_sq {Y : Lay} {G H : Hp} {st : List D} {d : D} {v : V} {ds : List D} (f : Le G H) (r : RowR Y G st H) (h : Vw Y G H d v) (e : sq st d = some ds) : ∃ a vs, v = .ref a ∧ (SqL Y.K H a vs ∨ SqT Y.K H a vs) ∧ RpL Y G ds vs := by
  unfold sq at e
  split at e
  · cases e
    rcases h with h | ⟨_, _, _, z, _⟩ | ⟨_, _, _, _, _, _, z, _⟩
    · obtain ⟨a, vs, rfl, h1, h2⟩ := tup_inv h
      exact ⟨a, vs, rfl, .inr (SqT.mono f h1), h2⟩
    · cases z
    · cases z
  · cases e
    rcases h with h | ⟨_, a, vs, z, rfl, _, h1, h2⟩ | ⟨_, _, _, _, _, _, z, _⟩
    · obtain ⟨a, vs, rfl, h1, h2⟩ := lst_inv h
      exact ⟨a, vs, rfl, .inl (SqL.of (f _ _ h1)), h2⟩
    · cases z
      exact ⟨a, vs, rfl, .inl (SqL.of h1), h2⟩
    · cases z
  · cases e
    rcases h with h | ⟨_, _, _, z, _⟩ | ⟨_, _, _, _, _, _, z, _⟩
    · obtain ⟨a, vs, rfl, h1, h2⟩ := scr_inv h
      exact ⟨a, vs, rfl, .inl (SqL.mono f h1), h2⟩
    · cases z
    · cases z
  · cases e
    rcases h with h | ⟨_, _, _, z, _⟩ | ⟨_, _, _, _, _, _, z, _⟩
    · obtain ⟨vs, h1, _, h2, _⟩ := r
      exact ⟨_, vs, row_inv h, .inl (SqL.of h1), h2⟩
    · cases z
    · cases z
  · cases e
theorem vw_str {Y : Lay} {G H : Hp} {l : List Nat} {v : V} (h : Vw Y G H (.str l) v) : v = .str (S l) := by
  rcases h with h | ⟨_, _, _, z, _⟩ | ⟨_, _, _, _, _, _, z, _⟩
  · exact str_inv h
  · cases z
  · cases z
theorem vw_tup {Y : Lay} {G H : Hp} {ds : List D} {v : V} (h : Vw Y G H (.tup ds) v) : ∃ a vs, v = .ref a ∧ SqT Y.K G a vs ∧ RpL Y G ds vs := by
  rcases h with h | ⟨_, _, _, z, _⟩ | ⟨_, _, _, _, _, _, z, _⟩
  · exact tup_inv h
  · cases z
  · cases z
theorem vw_lst {Y : Lay} {G H : Hp} {ds : List D} {v : V} (f : Le G H) (h : Vw Y G H (.lst ds) v) : ∃ a vs, v = .ref a ∧ H a = some (.lst vs) ∧ RpL Y G ds vs := by
  rcases h with h | ⟨_, a, vs, z, rfl, _, h1, h2⟩ | ⟨_, _, _, _, _, _, z, _⟩
  · obtain ⟨a, vs, rfl, h1, h2⟩ := lst_inv h
    exact ⟨a, vs, rfl, f _ _ h1, h2⟩
  · cases z
    exact ⟨a, vs, rfl, h1, h2⟩
  · cases z

/-! ### two operands, the left one looked at -/
def OpV (Z : Ct) (r : R2) (f : List D → D → D → Option D) : Prop := ∀ x y d e u (G H : Hp) σ st Q, Le G H → RowR Z.Y G st H → Vw Z.Y G H d x → Vw Z.Y G H e y → f st d e = some u → Post (rV Z.Y) Z G σ H (.ok u st) Q → r x y H Q
def opV (f : List D → D → D → Option D) (φ ψ : DEnv → List D → Res D) (env : DEnv) (st : List D) : Res D := (φ env st).bind fun d st1 => (ψ env st1).bind fun e st2 => ofO (f st2 d e) st2
theorem opv_read {r : R2} {f : List D → D → D → Option D} (hf : OpV Z r f) {ta tb : TE}
    (rd : ∀ σ H G env st Q, ER Z.Y Z.fc Z.Nw G env st σ H → Post (Vw Z.Y) Z G σ H (φ env st) Q → ta σ H Q)
    (rq : ∀ σ H G env st Q, ER Z.Y Z.fc Z.Nw G env st σ H → Post (Vw Z.Y) Z G σ H (ψ env st) Q → tb σ H Q) :
    ∀ σ H G env st Q, ER Z.Y Z.fc Z.Nw G env st σ H → Post (rV Z.Y) Z G σ H (opV f φ ψ env st) Q → tOp r ta tb σ H Q := fun σ H G env st Q er po => by
  refine rd σ H G env st _ er (Post.bind po fun d st1 v G1 H1 e x row rv po1 => ?_)
  refine rq σ H1 G1 env st1 _ (er.ext x row) (Post.bind po1 fun ds st2 vs G2 H2 e2 x2 row2 rvs po2 => ?_)
  cases ho : f st2 d ds with
  | none => rw [ho] at po2; exact po2.elim
  | some u =>
    rw [ho] at po2
    exact hf v vs d ds u G2 H2 σ st2 Q x2.f row2 (rv.ext x2) rvs ho po2
theorem de_ix {r : R2} {f : List D → D → D → Option D} (hr : IxR X r) (hf : OpV Z r f) (ha : DS X Z a φ) (hb : DS X Z b ψ) (hs : PlainIx b) : DE X Z (.Subscript a b pos) (opV f φ ψ) := by
  obtain ⟨t, p, rd⟩ := ha
  obtain ⟨u, q, rq⟩ := hb
  exact ⟨_, pe_ix hr p q hs, opv_read hf rd rq⟩
theorem de_cmpV {op : CmpOp} {r : R2} {f : List D → D → D → Option D} (ho : OpR X (compareOp op) r) (hf : OpV Z r f) (hm : behindInMarks op b = false) (ha : DS X Z a φ) (hb : DS X Z b ψ) : DE X Z (.Compare a [op] [b] pos) (opV f φ ψ) := by
  obtain ⟨t, p, rd⟩ := ha
  obtain ⟨u, q, rq⟩ := hb
  exact ⟨_, pe_cmpR ho p q hm, opv_read hf rd rq⟩
theorem dt_cmpV {op : CmpOp} {r : R2} {f : List D → D → D → Option D} (ho : OpR X (compareOp op) r) (hf : OpV Z r f) (hm : behindInMarks op b = false) (ha : DS X Z a φ) (hb : DS X Z b ψ) : DT X Z (.Compare a [op] [b] pos) (tst (opV f φ ψ)) := by
  obtain ⟨t, p, rd⟩ := ha
  obtain ⟨u, q, rq⟩ := hb
  exact ⟨_, pt_cmpR ho p q hm, fun σ H G env st Q er po => opv_read hf rd rq σ H G env st _ er (post_bl po)⟩

/-! ### index -/
def oIx (st : List D) (d e : D) : Option D := match d, e with
  | .str l, .int i => if l.length ≤ SZ then (atI l i).map fun c => D.str [c] else none
  | d, .int i => (sq st d).bind fun ds => atI ds i
  | _, _ => none
theorem atI_rp {Y : Lay} {G : Hp} {ds : List D} {vs : List V} (h : RpL Y G ds vs) {i : Int} {d : D} (e : atI ds i = some d) : ∃ v, atI vs i = some v ∧ Rp Y G d v := by
  unfold atI at e ⊢
  rw [← h.length]
  cases q : ixN ds.length i with
  | none => rw [q] at e; cases e
  | some j =>
    rw [q] at e
    exact h.get (i := j) e
theorem vw_int {Y : Lay} {G H : Hp} {i : Int} {v : V} (h : Vw Y G H (.int i) v) : v = .int i := by
  rcases h with h | ⟨_, _, _, z, _⟩ | ⟨_, _, _, _, _, _, z, _⟩
  · exact int_inv h
  · cases z
  · cases z
theorem ov_ix : OpV Z (rIx Z.Y.K) oIx := by
  intro x y d e u G H σ st Q fz row rx ry h po
  unfold oIx at h
  split at h
  · split at h
    · rename_i l i hl
      cases hc : atI l i with
      | none => rw [hc] at h; cases h
      | some c =>
        rw [hc] at h
        cases h
        rw [vw_str rx, vw_int ry]
        exact .inr (.inr ⟨S l, i, c, rfl, rfl, by rw [sz_line]; simpa [Str.length] using hl, by simpa using hc, Post.here (R := rV Z.Y) po fz row (rp_str _)⟩)
    · cases h
  · rename_i i hne
    cases hs : sq st d with
    | none => rw [hs] at h; cases h
    | some ds =>
      rw [hs] at h
      have h : atI ds i = some u := h
      obtain ⟨p, vs, rfl, hq, rvs⟩ := vw_sq fz row rx hs
      obtain ⟨v, hv, rv⟩ := atI_rp rvs h
      rw [vw_int ry]
      rcases hq with hq | hq
      · exact .inl ⟨p, vs, i, v, rfl, rfl, hq, hv, Post.here (R := rV Z.Y) po fz row rv⟩
      · exact .inr (.inl ⟨p, vs, i, v, rfl, rfl, hq, hv, Post.here (R := rV Z.Y) po fz row rv⟩)
  · cases h

/-! ### slices -/
def cutL {α : Type} (xs : List α) (lo hi : Option Int) : List α := (xs.drop (HT.sIx xs.length 0 lo)).take (HT.sIx xs.length xs.length hi - HT.sIx xs.length 0 lo)
theorem cut_rp {Y : Lay} {G : Hp} {ds : List D} {vs : List V} (h : RpL Y G ds vs) (lo hi : Option Int) : RpL Y G (cutL ds lo hi) (cutV vs lo hi) := by
  unfold cutL cutV
  rw [← h.length]
  exact (h.drop _).take _
def oSl (d : D) (lo hi : Option Int) : Option D := match d with
  | .str l => if l.length ≤ SZ then some (.str (cutL l lo hi)) else none
  | .tup ds => some (.tup (cutL ds lo hi))
  | .lst ds => some (.lst (cutL ds lo hi))
  | _ => none
abbrev rSlAny (K : PySem.W.Frag) : V → Option Int → Option Int → Hp → VK → Prop := fun x lo hi H Q => rSlS x lo hi H Q ∨ (rSlA K x lo hi H Q ∨ rSlL K x lo hi H Q)
theorem sl_any : SlR X (rSlAny X.K) := SlR.or sl_str (SlR.or sl_tupA sl_list)
theorem os_sl {x : V} {d u : D} {lo hi : Option Int} {G H : Hp} {σ : L2.St} {st : List D} {Q : VK} (fz : Le G H) (row : RowR Z.Y G st H) (rx : Vw Z.Y G H d x) (h : oSl d lo hi = some u) (po : Post (rV Z.Y) Z G σ H (.ok u st) Q) : rSlAny Z.Y.K x lo hi H Q := by
  unfold oSl at h
  split at h
  · split at h
    · rename_i l hl
      cases h
      rw [vw_str rx]
      refine .inl ⟨S l, rfl, by rw [sz_line]; simpa [Str.length] using hl, Post.here (R := rV Z.Y) po fz row ?_⟩
      have e : cutS (S l) lo hi = S (cutL l lo hi) := by
        unfold cutS cutL S Str.length
        simp
      rw [e]
      exact rp_str _
    · cases h
  · rename_i ds
    cases h
    obtain ⟨p, vs, rfl, hp, rvs⟩ := vw_tup rx
    refine .inr (.inl ⟨p, vs, rfl, SqT.mono fz hp, fun hw => ?_, fun hw w hq => ?_⟩)
    · have hl := rvs.length
      have e : cutL ds lo hi = ds := by
        unfold cutL
        rw [hl, hw.1, hw.2]
        simp [← hl]
      rw [e] at po
      exact Post.here (R := rV Z.Y) po fz row (rp_tup hp rvs)
    · exact Post.new (R := rV Z.Y) po fz row hq (rp_tup (SqT.of upd_same) (RpL.mono (Ext.new (M := Z.Y.M) fz hq).g (cut_rp rvs lo hi)))
  · rename_i ds
    cases h
    obtain ⟨p, vs, rfl, hp, rvs⟩ := vw_lst fz rx
    exact .inr (.inr ⟨p, vs, rfl, SqL.of hp, fun w hq => Post.new (R := rV Z.Y) po fz row hq (rp_lst upd_same (RpL.mono (Ext.new (M := Z.Y.M) fz hq).g (cut_rp rvs lo hi)))⟩)
  · cases h
/-- a slice's part -/
def DO (X : Cx) (Z : Ct) (o : Option Expr) (φ : DEnv → List D → Res (Option Int)) : Prop :=
  ∃ t, PO X o t ∧ ∀ σ H G env st Q, ER Z.Y Z.fc Z.Nw G env st σ H → Post (fun _ _ (d v : Option Int) => d = v) Z G σ H (φ env st) Q → t σ H Q
def noP (_ : DEnv) (st : List D) : Res (Option Int) := .ok none st
def someP (φ : DEnv → List D → Res D) (env : DEnv) (st : List D) : Res (Option Int) := (φ env st).bind fun d st1 => match d with
  | .int i => .ok (some i) st1
  | _ => .bad
theorem do_none : DO X Z none noP := ⟨_, po_none, fun σ H G env st Q er po => Post.here (R := fun _ _ (d v : Option Int) => d = v) po er.fz er.row rfl⟩
theorem do_some (ha : DE X Z a φ) : DO X Z (some a) (someP φ) := by
  obtain ⟨t, p, rd⟩ := ha
  refine ⟨_, po_some p, fun σ H G env st Q er po => rd σ H G env st _ er (Post.bind po fun d st1 v G1 H1 e x row rv po1 => ?_)⟩
  cases d with
  | int i => exact ⟨i, int_inv rv, Post.here (R := fun _ _ (d v : Option Int) => d = v) po1 x.f row rfl⟩
  | _ => exact po1.elim
def slE (φ : DEnv → List D → Res D) (lo hi : DEnv → List D → Res (Option Int)) (env : DEnv) (st : List D) : Res D := (φ env st).bind fun d st1 => (lo env st1).bind fun l st2 => (hi env st2).bind fun u st3 => ofO (oSl d l u) st3
theorem de_sl {lo hi : Option Expr} {l u : DEnv → List D → Res (Option Int)} {p2 : Pos} (hK : Z.Y.K = X.K) (ha : DS X Z a φ) (hl : DO X Z lo l) (hu : DO X Z hi u) : DE X Z (.Subscript a (.Slice lo hi none p2) pos) (slE φ l u) := by
  obtain ⟨t, p, rd⟩ := ha
  obtain ⟨t1, p1, rl⟩ := hl
  obtain ⟨t2, p3, ru⟩ := hu
  refine ⟨_, pe_slice sl_any p p1 p3, fun σ H G env st Q er po => ?_⟩
  refine rd σ H G env st _ er (Post.bind po fun d st1 v G1 H1 e x row rv po1 => ?_)
  refine rl σ H1 G1 env st1 _ (er.ext x row) (Post.bind po1 fun l st2 l' G2 H2 e2 x2 row2 rl2 po2 => ?_)
  refine ru σ H2 G2 env st2 _ ((er.ext x row).ext x2 row2) (Post.bind po2 fun u st3 u' G3 H3 e3 x3 row3 ru3 po3 => ?_)
  subst rl2 ru3
  cases ho : oSl d l u with
  | none => rw [ho] at po3; exact po3.elim
  | some w =>
    rw [ho] at po3
    rw [← hK]
    exact os_sl x3.f row3 ((rv.ext x2).ext x3) ho po3

/-! ### built-ins by one thing that is looked at -/
def B1 (Z : Ct) (r : List V → Hp → VK → Prop) (f : List D → D → Option D) : Prop := ∀ x d u (G H : Hp) σ st Q, Le G H → RowR Z.Y G st H → Vw Z.Y G H d x → f st d = some u → Post (rV Z.Y) Z G σ H (.ok u st) Q → r [x] H Q
def b1E (f : List D → D → Option D) (φ : DEnv → List D → Res D) (env : DEnv) (st : List D) : Res D := (φ env st).bind fun d st1 => ofO (f st1 d) st1
theorem ds_pa (ha : DS X Z a φ) (hs : starEach [a] X.env = [(false, eval a X.env)]) : ∃ t, PA X [a] t ∧ ∀ σ H G env st Q, ER Z.Y Z.fc Z.Nw G env st σ H → Post (fun G H d xs => ∃ v, xs = [v] ∧ Vw Z.Y G H d v) Z G σ H (φ env st) Q → t σ H Q := by
  obtain ⟨t, p, rd⟩ := ha
  refine ⟨_, pa_cons p pa_nil hs, fun σ H G env st Q er po => rd σ H G env st _ er ?_⟩
  cases hφ : φ env st with
  | ok d st1 =>
    rw [hφ] at po
    exact fun v G' H' e row rv => po [v] G' H' e row ⟨v, rfl, rv⟩
  | exc c fs st1 => rw [hφ] at po; exact po
  | bad => rw [hφ] at po; exact po
theorem b1_read {r : List V → Hp → VK → Prop} {f : List D → D → Option D} {t : TA} (hf : B1 Z r f)
    (rd : ∀ σ H G env st Q, ER Z.Y Z.fc Z.Nw G env st σ H → Post (fun G H d xs => ∃ v, xs = [v] ∧ Vw Z.Y G H d v) Z G σ H (φ env st) Q → t σ H Q) :
    ∀ σ H G env st Q, ER Z.Y Z.fc Z.Nw G env st σ H → Post (rV Z.Y) Z G σ H (b1E f φ env st) Q → tCB r t σ H Q := fun σ H G env st Q er po => by
  refine rd σ H G env st _ er (Post.bind po fun d st1 xs G1 H1 e x row rv po1 => ?_)
  obtain ⟨v, rfl, rv⟩ := rv
  cases ho : f st1 d with
  | none => rw [ho] at po1; exact po1.elim
  | some u =>
    rw [ho] at po1
    exact hf v d u G1 H1 σ st1 Q x.f row rv ho po1
theorem de_b1 {x : Str} {p : Pos} {id : String} {r : List V → Hp → VK → Prop} {f : List D → D → Option D} (hc : CallR X (.builtin id) r) (hf : B1 Z r f) (hg : Gl X x) (hm : X.mg x = none) (hv : bootBuiltins x = some (.builtin id)) (hn : x ≠ "__name__") (hdb : (x == ("__debug__" : Str)) = false)
    (ha : DS X Z a φ) (hs : starEach [a] X.env = [(false, eval a X.env)]) : DE X Z (.Call (.Name x p) [a] [] pos) (b1E f φ) := by
  obtain ⟨t, q, rd⟩ := ds_pa ha hs
  exact ⟨_, pe_callB hc hg hm hv q hn hdb hs rfl, b1_read hf rd⟩
theorem de_t1 {x : Str} {p : Pos} {T : String} {r : List V → Hp → VK → Prop} {f : List D → D → Option D} (hc : CallR X (.type T) r) (hf : B1 Z r f) (hg : Gl X x) (hm : X.mg x = none) (hv : bootBuiltins x = some (.type T)) (hn : x ≠ "__name__") (hdb : (x == ("__debug__" : Str)) = false)
    (ha : DS X Z a φ) (hs : starEach [a] X.env = [(false, eval a X.env)]) : DE X Z (.Call (.Name x p) [a] [] pos) (b1E f φ) := by
  obtain ⟨t, q, rd⟩ := ds_pa ha hs
  exact ⟨_, pe_callTy hc hg hm hv q hn hdb hs rfl, b1_read hf rd⟩
/-- len -/
def oLen (st : List D) (d : D) : Option D := match d with
  | .str l => if l.length ≤ SZ then some (.int l.length) else none
  | d => (sq st d).map fun ds => D.int ds.length
theorem b1_len : B1 Z (fun xs H Q => ∃ x n, xs = [x] ∧ LenV Z.Y.K x H n ∧ Q (.int (n : Nat)) H) oLen := by
  intro x d u G H σ st Q fz row rx h po
  unfold oLen at h
  split at h
  · split at h
    · rename_i l hl
      cases h
      rw [vw_str rx]
      exact ⟨_, l.length, rfl, ⟨by rw [sz_line]; simpa [Str.length] using hl, by simp [Str.length]⟩, Post.here (R := rV Z.Y) po fz row (rp_int _)⟩
    · cases h
  · cases hs : sq st d with
    | none => rw [hs] at h; cases h
    | some ds =>
      rw [hs] at h
      cases h
      obtain ⟨p, vs, rfl, hq, rvs⟩ := vw_sq fz row rx hs
      refine ⟨_, ds.length, rfl, ?_, Post.here (R := rV Z.Y) po fz row (rp_int _)⟩
      rcases hq with hq | hq
      · exact .inl ⟨vs, hq, rvs.length⟩
      · exact .inr ⟨vs, hq, rvs.length⟩
/-- tuple(xs), list(xs) -/
def oTup (st : List D) (d : D) : Option D := (sq st d).map D.tup
def oLst (st : List D) (d : D) : Option D := (sq st d).map D.lst
theorem b1_tup : B1 Z (fun xs H Q => ∃ p ys, xs = [.ref p] ∧ ((SqL Z.Y.K H p ys ∧ ∀ l, H l = none → Q (.ref l) (upd H l (.tup ys))) ∨ (SqT Z.Y.K H p ys ∧ Q (.ref p) H))) oTup := by
  intro x d u G H σ st Q fz row rx h po
  unfold oTup at h
  by_cases ht : ∃ ds, d = .tup ds
  · obtain ⟨ds, rfl⟩ := ht
    cases h
    obtain ⟨p, vs, rfl, hp, rvs⟩ := vw_tup rx
    exact ⟨p, vs, rfl, .inr ⟨SqT.mono fz hp, Post.here (R := rV Z.Y) po fz row (rp_tup hp rvs)⟩⟩
  · cases hs : sq st d with
    | none => rw [hs] at h; cases h
    | some ds =>
      rw [hs] at h
      cases h
      obtain ⟨p, vs, rfl, hq, rvs⟩ := vw_sq fz row rx hs
      rcases hq with hq | hq
      · exact ⟨p, vs, rfl, .inl ⟨hq, fun l hl => Post.new (R := rV Z.Y) po fz row hl (rp_tup (SqT.of upd_same) (RpL.mono (Ext.new (M := Z.Y.M) fz hl).g rvs))⟩⟩
      · -- a list is no tuple: what is read as a tuple here is one
        cases d with
        | tup z => exact absurd ⟨z, rfl⟩ ht
        | lst z =>
          obtain ⟨p', vs', e, hl, rl⟩ := vw_lst fz rx
          cases e
          cases hs
          exact ⟨p, vs', rfl, .inl ⟨SqL.of hl, fun l hl => Post.new (R := rV Z.Y) po fz row hl (rp_tup (SqT.of upd_same) (RpL.mono (Ext.new (M := Z.Y.M) fz hl).g rl))⟩⟩
        | scr z =>
          rcases rx with rx | ⟨_, _, _, z', _⟩ | ⟨_, _, _, _, _, _, z', _⟩
          · obtain ⟨p', vs', e, hl, rl⟩ := scr_inv rx
            cases e
            cases hs
            exact ⟨p, vs', rfl, .inl ⟨SqL.mono fz hl, fun l hl => Post.new (R := rV Z.Y) po fz row hl (rp_tup (SqT.of upd_same) (RpL.mono (Ext.new (M := Z.Y.M) fz hl).g rl))⟩⟩
          · cases z'
          · cases z'
        | row =>
          rcases rx with rx | ⟨_, _, _, z', _⟩ | ⟨_, _, _, _, _, _, z', _⟩
          · have e := row_inv rx
            cases e
            cases hs
            obtain ⟨vs', h1, _, h2, _⟩ := id row
            exact ⟨_, vs', rfl, .inl ⟨SqL.of h1, fun l hl => Post.new (R := rV Z.Y) po fz row hl (rp_tup (SqT.of upd_same) (RpL.mono (Ext.new (M := Z.Y.M) fz hl).g h2))⟩⟩
          · cases z'
          · cases z'
        | _ => cases hs
theorem b1_lst : B1 Z (fun xs H Q => ∃ p ys, xs = [.ref p] ∧ (SqL Z.Y.K H p ys ∨ SqT Z.Y.K H p ys) ∧ ∀ l, H l = none → Q (.ref l) (upd H l (.lst ys))) oLst := by
  intro x d u G H σ st Q fz row rx h po
  unfold oLst at h
  cases hs : sq st d with
  | none => rw [hs] at h; cases h
  | some ds =>
    rw [hs] at h
    cases h
    obtain ⟨p, vs, rfl, hq, rvs⟩ := vw_sq fz row rx hs
    exact ⟨p, vs, rfl, hq, fun l hl => Post.new (R := rV Z.Y) po fz row hl (rp_lst upd_same (RpL.mono (Ext.new (M := Z.Y.M) fz hl).g rvs))⟩
/-- int(n), int(b) -/
def oInt (_ : List D) (d : D) : Option D := match d with
  | .int i => some (.int i)
  | .bl b => some (.int (if b = true then 1 else 0))
  | _ => none
theorem b1_int : B1 Z (fun xs H Q => (∃ i, xs = [V.int i] ∧ Q (.int i) H) ∨ ∃ k, xs = [V.bl k] ∧ Q (.int (if k = true then 1 else 0)) H) oInt := by
  intro x d u G H σ st Q fz row rx h po
  unfold oInt at h
  split at h
  · cases h
    rw [vw_int rx]
    exact .inl ⟨_, rfl, Post.here (R := rV Z.Y) po fz row (rp_int _)⟩
  · cases h
    rcases rx with rx | ⟨_, _, _, z', _⟩ | ⟨_, _, _, _, _, _, z', _⟩
    · rw [bl_inv rx]
      exact .inr ⟨_, rfl, Post.here (R := rV Z.Y) po fz row (rp_int _)⟩
    · cases z'
    · cases z'
  · cases h
/-! numbers, bools of a list -/
def intsOf : List D → Option (List Int)
  | [] => some []
  | .int i :: ds => (intsOf ds).map (i :: ·)
  | _ => none
def blsOf : List D → Option (List Bool)
  | [] => some []
  | .bl i :: ds => (blsOf ds).map (i :: ·)
  | _ => none
theorem ints_rp {Y : Lay} {G : Hp} : ∀ {ds : List D} {vs : List V} {ns : List Int}, RpL Y G ds vs → intsOf ds = some ns → vs = ns.map V.int
  | [], vs, ns, h, e => by cases e; exact h.nil_inv
  | d :: ds, vs, ns, h, e => by
    obtain ⟨v, r, rfl, hv, t⟩ := h.cons_inv
    cases d with
    | int i =>
      simp only [intsOf] at e
      cases q : intsOf ds with
      | none => rw [q] at e; cases e
      | some ms =>
        rw [q] at e
        cases e
        rw [int_inv hv, ints_rp t q]
        rfl
    | _ => cases e
theorem bls_rp {Y : Lay} {G : Hp} : ∀ {ds : List D} {vs : List V} {ns : List Bool}, RpL Y G ds vs → blsOf ds = some ns → vs = ns.map V.bl
  | [], vs, ns, h, e => by cases e; exact h.nil_inv
  | d :: ds, vs, ns, h, e => by
    obtain ⟨v, r, rfl, hv, t⟩ := h.cons_inv
    cases d with
    | bl i =>
      simp only [blsOf] at e
      cases q : blsOf ds with
      | none => rw [q] at e; cases e
      | some ms =>
        rw [q] at e
        cases e
        rw [bl_inv hv, bls_rp t q]
        rfl
    | _ => cases e
def oSum (st : List D) (d : D) : Option D := (sq st d).bind fun ds => (intsOf ds).map fun ns => D.int ns.sum
def rSumA (K : PySem.W.Frag) : List V → Hp → VK → Prop := fun vs H Q => ∃ (a : Addr) (ns : List Int), vs = [V.ref a] ∧ (SqL K H a (ns.map V.int) ∨ SqT K H a (ns.map V.int)) ∧ Q (.int ns.sum) H
theorem cr_sumA (hc : X.calm = true) : CallR X (.builtin "sum") (rSumA X.K) := by
  intro pins s σ H vs us Q I r h
  obtain ⟨a, ns, rfl, hs | hs, q⟩ := h
  · exact cr_sum hc pins s σ H _ us Q I r ⟨a, ns, rfl, hs, q⟩
  · obtain ⟨its, rv, hl, _⟩ := I.tuple hs
    rw [Vals.ref1 r]
    exact sum_tupleG (I.ok.hd hc) hl rv.ints fun h' tk t' hk => ⟨.int _, H, I.kept hk, ⟨_, rfl⟩, q⟩
theorem b1_sum : B1 Z (rSumA Z.Y.K) oSum := by
  intro x d u G H σ st Q fz row rx h po
  unfold oSum at h
  cases hs : sq st d with
  | none => rw [hs] at h; cases h
  | some ds =>
    rw [hs] at h
    have h : (intsOf ds).map (fun ns => D.int ns.sum) = some u := h
    cases hi : intsOf ds with
    | none => rw [hi] at h; cases h
    | some ns =>
      rw [hi] at h
      cases h
      obtain ⟨p, vs, rfl, hq, rvs⟩ := vw_sq fz row rx hs
      have e := ints_rp rvs hi
      subst e
      exact ⟨p, ns, rfl, hq, Post.here (R := rV Z.Y) po fz row (rp_int _)⟩
/-- all, any of a list of bools -/
def oAll (st : List D) (d : D) : Option D := match d with
  | .lst ds => (blsOf ds).map fun bs => D.bl (bs.all id)
  | _ => none
def oAny (st : List D) (d : D) : Option D := match d with
  | .lst ds => (blsOf ds).map fun bs => D.bl (bs.any id)
  | _ => none
theorem b1_all : B1 Z (rAll Z.Y.K) oAll := by
  intro x d u G H σ st Q fz row rx h po
  unfold oAll at h
  split at h
  · rename_i ds
    cases hi : blsOf ds with
    | none => rw [hi] at h; cases h
    | some bs =>
      rw [hi] at h
      cases h
      obtain ⟨p, vs, rfl, hp, rvs⟩ := vw_lst fz rx
      have e := bls_rp rvs hi
      subst e
      exact ⟨p, bs, rfl, SqL.of hp, Post.here (R := rV Z.Y) po fz row (rp_bl _)⟩
  · cases h
theorem b1_any : B1 Z (rAny Z.Y.K) oAny := by
  intro x d u G H σ st Q fz row rx h po
  unfold oAny at h
  split at h
  · rename_i ds
    cases hi : blsOf ds with
    | none => rw [hi] at h; cases h
    | some bs =>
      rw [hi] at h
      cases h
      obtain ⟨p, vs, rfl, hp, rvs⟩ := vw_lst fz rx
      have e := bls_rp rvs hi
      subst e
      exact ⟨p, bs, rfl, SqL.of hp, Post.here (R := rV Z.Y) po fz row (rp_bl _)⟩
  · cases h
/-- the least, the greatest of a list of ints -/
def minI : List Int → Option Int
  | [] => none
  | x :: xs => some (xs.foldl (fun a b => if b < a then b else a) x)
def maxI : List Int → Option Int
  | [] => none
  | x :: xs => some (xs.foldl (fun a b => if a < b then b else a) x)
theorem minI_mem : ∀ {xs : List Int} {x : Int}, xs.foldl (fun a b => if b < a then b else a) x ∈ x :: xs ∧ ∀ y ∈ x :: xs, xs.foldl (fun a b => if b < a then b else a) x ≤ y
  | [], x => by simp
  | z :: xs, x => by
    rw [List.foldl_cons]
    obtain ⟨h1, h2⟩ := minI_mem (xs := xs) (x := if z < x then z else x)
    refine ⟨?_, fun y hy => ?_⟩
    · rcases List.mem_cons.mp h1 with e | e
      · rw [e]; split <;> simp
      · simp [e]
    · have h3 := h2 (if z < x then z else x) (by simp)
      rcases List.mem_cons.mp hy with rfl | hy
      · refine Int.le_trans h3 ?_; split <;> omega
      · rcases List.mem_cons.mp hy with rfl | hy
        · refine Int.le_trans h3 ?_; split <;> omega
        · exact h2 y (List.mem_cons_of_mem _ hy)
theorem maxI_mem : ∀ {xs : List Int} {x : Int}, xs.foldl (fun a b => if a < b then b else a) x ∈ x :: xs ∧ ∀ y ∈ x :: xs, y ≤ xs.foldl (fun a b => if a < b then b else a) x
  | [], x => by simp
  | z :: xs, x => by
    rw [List.foldl_cons]
    obtain ⟨h1, h2⟩ := maxI_mem (xs := xs) (x := if x < z then z else x)
    refine ⟨?_, fun y hy => ?_⟩
    · rcases List.mem_cons.mp h1 with e | e
      · rw [e]; split <;> simp
      · simp [e]
    · have h3 := h2 (if x < z then z else x) (by simp)
      rcases List.mem_cons.mp hy with rfl | hy
      · refine Int.le_trans ?_ h3; split <;> omega
      · rcases List.mem_cons.mp hy with rfl | hy
        · refine Int.le_trans ?_ h3; split <;> omega
        · exact h2 y (List.mem_cons_of_mem _ hy)
def oMin (_ : List D) (d : D) : Option D := match d with
  | .lst ds => (intsOf ds).bind fun ns => (minI ns).map D.int
  | _ => none
def oMax (_ : List D) (d : D) : Option D := match d with
  | .lst ds => (intsOf ds).bind fun ns => (maxI ns).map D.int
  | _ => none
theorem b1_min : B1 Z (rMin Z.Y.K) oMin := by
  intro x d u G H σ st Q fz row rx h po
  unfold oMin at h
  split at h
  · rename_i ds
    cases hi : intsOf ds with
    | none => rw [hi] at h; cases h
    | some ns =>
      rw [hi] at h
      obtain ⟨p, vs, rfl, hp, rvs⟩ := vw_lst fz rx
      have e := ints_rp rvs hi
      subst e
      cases ns with
      | nil => cases h
      | cons n ns =>
        cases h
        obtain ⟨h1, h2⟩ := minI_mem (xs := ns) (x := n)
        refine ⟨p, n :: ns, rfl, SqL.of hp, by simp, fun m hm hle => Post.here (R := rV Z.Y) po fz row ?_⟩
        have e : m = ns.foldl (fun a b => if b < a then b else a) n := Int.le_antisymm (hle _ h1) (h2 m hm)
        rw [e]
        exact rp_int _
  · cases h
theorem b1_max : B1 Z (rMax Z.Y.K) oMax := by
  intro x d u G H σ st Q fz row rx h po
  unfold oMax at h
  split at h
  · rename_i ds
    cases hi : intsOf ds with
    | none => rw [hi] at h; cases h
    | some ns =>
      rw [hi] at h
      obtain ⟨p, vs, rfl, hp, rvs⟩ := vw_lst fz rx
      have e := ints_rp rvs hi
      subst e
      cases ns with
      | nil => cases h
      | cons n ns =>
        cases h
        obtain ⟨h1, h2⟩ := maxI_mem (xs := ns) (x := n)
        refine ⟨p, n :: ns, rfl, SqL.of hp, by simp, fun m hm hle => Post.here (R := rV Z.Y) po fz row ?_⟩
        have e : m = ns.foldl (fun a b => if a < b then b else a) n := Int.le_antisymm (h2 m hm) (hle _ h1)
        rw [e]
        exact rp_int _
  · cases h
end
end DL

set_option Elab.async false
set_option linter.all false
set_option maxRecDepth 100000
namespace DL
open PySem PySem.Spec PyProof.Rows L2

section
variable {X : Cx} {Z : Ct} {a b : Expr} {φ ψ : DEnv → List D → Res D} {pos : Pos}
/-! ### in, not in -/
theorem roomIn {A : Around} {d : PyData} {ds : List PyData} (sd : SeqAt.shaped d = true) (hu : A.units + 65 < cLine) : A.units + 1 + min (PyData.depthAll ds) d.depth < cLine := by
  have h1 := SeqAt.depth_of_shaped sd
  have h2 : min (PyData.depthAll ds) d.depth ≤ d.depth := Nat.min_le_right _ _
  omega
def rInA (K : PySem.W.Frag) (neg : Bool) : R2 := fun x y H Q => ∃ d ds, Dp K H x d ∧ ((Dp K H y (.list ds) ∧ SeqAt.shaped (.list ds) = true) ∨ (Dp K H y (.tuple ds) ∧ SeqAt.shaped (.tuple ds) = true)) ∧ SeqAt.shaped d = true ∧
  Q (.bl (if neg = true then !ds.any (fun z => PyData.eqv z d) else ds.any fun z => PyData.eqv z d)) H
theorem op_inA (hu : X.A.units + 65 < cLine) : OpR X (compareOp .In) (rInA X.K false) := by
  intro pins s σ H x y v u Q I rx ry h
  obtain ⟨d, ds, hd, he, sd, q⟩ := h
  obtain ⟨as, r1⟩ := Dp.reads I d x v hd rx
  rcases he with ⟨he, se⟩ | ⟨he, se⟩
  · obtain ⟨bs, r2⟩ := Dp.reads I (.list ds) y u he ry
    exact SeqAt.in_list_reads r2 r1 (SeqAt.canLay_of_shaped se) (SeqAt.canLay_of_shaped sd) (roomIn sd hu) ⟨.bl _, H, I, rfl, q⟩
  · obtain ⟨bs, r2⟩ := Dp.reads I (.tuple ds) y u he ry
    exact SeqAt.in_tuple_reads r2 r1 (SeqAt.canLay_of_shaped se) (SeqAt.canLay_of_shaped sd) (roomIn sd hu) ⟨.bl _, H, I, rfl, q⟩
theorem op_notInA (hu : X.A.units + 65 < cLine) : OpR X (compareOp .NotIn) (rInA X.K true) := by
  intro pins s σ H x y v u Q I rx ry h
  obtain ⟨d, ds, hd, he, sd, q⟩ := h
  obtain ⟨as, r1⟩ := Dp.reads I d x v hd rx
  rcases he with ⟨he, se⟩ | ⟨he, se⟩
  · obtain ⟨bs, r2⟩ := Dp.reads I (.list ds) y u he ry
    exact SeqAt.notIn_list_reads r2 r1 (SeqAt.canLay_of_shaped se) (SeqAt.canLay_of_shaped sd) (roomIn sd hu) ⟨.bl _, H, I, rfl, q⟩
  · obtain ⟨bs, r2⟩ := Dp.reads I (.tuple ds) y u he ry
    exact SeqAt.notIn_tuple_reads r2 r1 (SeqAt.canLay_of_shaped se) (SeqAt.canLay_of_shaped sd) (roomIn sd hu) ⟨.bl _, H, I, rfl, q⟩
/-- d among the items -/
def hasD (d : D) (ds : List D) : Bool := ds.any fun z => deq DP z d
def oIn (_ : List D) (d e : D) : Option D := match e with
  | .lst ds => if (okD DP d && ds.all (okD DP)) = true then some (.bl (hasD d ds)) else none
  | .tup ds => if (okD DP d && ds.all (okD DP)) = true then some (.bl (hasD d ds)) else none
  | _ => none
def oNotIn (_ : List D) (d e : D) : Option D := match e with
  | .lst ds => if (okD DP d && ds.all (okD DP)) = true then some (.bl (!hasD d ds)) else none
  | .tup ds => if (okD DP d && ds.all (okD DP)) = true then some (.bl (!hasD d ds)) else none
  | _ => none
theorem dpAll_of {Y : Lay} {G H : Hp} (f : Le G H) {n : Nat} : ∀ {ds : List D} {vs : List V}, RpL Y G ds vs → ds.all (okD n) = true → DpAll Y.K H vs (ds.map (toPy n))
  | [], _, h, _ => by rw [h.nil_inv]; exact DpAll.nil
  | d :: ds, _, h, e => by
    obtain ⟨v, r, rfl, hv, t⟩ := h.cons_inv
    rw [List.all_cons, Bool.and_eq_true] at e
    exact DpAll.cons (dp_of f n d v e.1 hv) (dpAll_of f t e.2)
theorem any_deq {n : Nat} {d : D} (hd : okD n d = true) : ∀ {ds : List D}, ds.all (okD n) = true → (ds.map (toPy n)).any (fun z => PyData.eqv z (toPy n d)) = ds.any fun z => deq n z d
  | [], _ => rfl
  | x :: xs, e => by
    rw [List.all_cons, Bool.and_eq_true] at e
    simp only [List.map_cons, List.any_cons]
    rw [eqv_deq n x d e.1 hd, any_deq hd e.2]
theorem vw_ok {Y : Lay} {G H : Hp} {d : D} {v : V} (h : Vw Y G H d v) (f : Le G H) {n : Nat} (e : okD n d = true) (n0 : ∀ ds, d ≠ .lst ds) : Rp Y G d v := by
  rcases h with h | ⟨ds, _, _, z, _⟩ | ⟨_, _, _, _, _, _, z, _⟩
  · exact h
  · exact absurd z (n0 ds)
  · subst z; cases n <;> simp [okD] at e
theorem vw_dp {Y : Lay} {G H : Hp} {d : D} {v : V} (h : Vw Y G H d v) (f : Le G H) {n : Nat} (e : okD n d = true) : Dp Y.K H v (toPy n d) := by
  rcases h with h | ⟨ds, a, vs, rfl, rfl, _, h1, h2⟩ | ⟨_, _, _, _, _, _, z, _⟩
  · exact dp_of f n d v e h
  · cases n with
    | zero => simp [okD] at e
    | succ n => exact Dp.lst (SqL.of h1) (dpAll_of f h2 (by simpa [okD] using e))
  · subst z; cases n <;> simp [okD] at e
theorem in_read {neg : Bool} {x y : V} {d e : D} {ds : List D} {G H : Hp} {σ : L2.St} {st : List D} {Q : VK} (fz : Le G H) (row : RowR Z.Y G st H) (rx : Vw Z.Y G H d x) (ry : Vw Z.Y G H e y) (he : e = .lst ds ∨ e = .tup ds)
    (hk : (okD DP d && ds.all (okD DP)) = true) (po : Post (rV Z.Y) Z G σ H (.ok (.bl (if neg = true then !hasD d ds else hasD d ds)) st) Q) : rInA Z.Y.K neg x y H Q := by
  rw [Bool.and_eq_true] at hk
  have hany := any_deq hk.1 hk.2
  have q := Post.here (R := rV Z.Y) po fz row (rp_bl _)
  refine ⟨toPy DP d, ds.map (toPy DP), vw_dp rx fz hk.1, ?_, shaped_D (by decide) hk.1, by rw [hany]; exact q⟩
  rcases he with rfl | rfl
  · have ok : okD (DP + 1) (.lst ds) = true := by simpa [okD] using hk.2
    exact .inl ⟨vw_dp ry fz ok, shaped_D (n := DP + 1) (d := .lst ds) (by decide) ok⟩
  · have ok : okD (DP + 1) (.tup ds) = true := by simpa [okD] using hk.2
    exact .inr ⟨vw_dp ry fz ok, shaped_D (n := DP + 1) (d := .tup ds) (by decide) ok⟩
theorem ov_in : OpV Z (rInA Z.Y.K false) oIn := by
  intro x y d e u G H σ st Q fz row rx ry h po
  unfold oIn at h
  split at h
  · split at h
    · cases h
      exact in_read (neg := false) fz row rx ry (.inl rfl) (by assumption) po
    · cases h
  · split at h
    · cases h
      exact in_read (neg := false) fz row rx ry (.inr rfl) (by assumption) po
    · cases h
  · cases h
theorem ov_notIn : OpV Z (rInA Z.Y.K true) oNotIn := by
  intro x y d e u G H σ st Q fz row rx ry h po
  unfold oNotIn at h
  split at h
  · split at h
    · cases h
      exact in_read (neg := true) fz row rx ry (.inl rfl) (by assumption) po
    · cases h
  · split at h
    · cases h
      exact in_read (neg := true) fz row rx ry (.inr rfl) (by assumption) po
    · cases h
  · cases h

/-! ### isinstance -/
inductive BT where
  | int | bool | str | tuple | list
  deriving DecidableEq
def BT.nm : BT → String
  | .int => "int" | .bool => "bool" | .str => "str" | .tuple => "tuple" | .list => "list"
def kindD : D → Option String
  | .non => some "NoneType"
  | .bl _ => some "bool"
  | .int _ => some "int"
  | .str _ => some "str"
  | .tup _ => some "tuple"
  | .lst _ => some "list"
  | _ => none
def isBT (T : BT) (d : D) : Option Bool := match d, T with
  | .non, _ => some false
  | .bl _, .int => some true
  | .bl _, .bool => some true
  | .bl _, _ => some false
  | .int _, .int => some true
  | .int _, _ => some false
  | .str _, .str => some true
  | .str _, _ => some false
  | .tup _, .tuple => some true
  | .tup _, _ => some false
  | .lst _, .list => some true
  | .lst _, _ => some false
  | _, _ => none
theorem isBT_kit {T : BT} {d : D} {r : Bool} (h : isBT T d = some r) : ∃ k, kindD d = some k ∧ kitB k T.nm = some r := by
  cases d with
  | non => cases T <;> cases h <;> exact ⟨_, rfl, by decide +kernel⟩
  | bl b => cases T <;> cases h <;> exact ⟨_, rfl, by decide +kernel⟩
  | int b => cases T <;> cases h <;> exact ⟨_, rfl, by decide +kernel⟩
  | str b => cases T <;> cases h <;> exact ⟨_, rfl, by decide +kernel⟩
  | tup b => cases T <;> cases h <;> exact ⟨_, rfl, by decide +kernel⟩
  | lst b => cases T <;> cases h <;> exact ⟨_, rfl, by decide +kernel⟩
  | _ => cases h
theorem sqT_ty {K : PySem.W.Frag} {H : Hp} {a : Addr} {vs : List V} (h : SqT K H a vs) : TyX K H (.ref a) (.type "tuple") := by
  rcases h with (h | ⟨o, h⟩) | ⟨o, its, n, h1, h2, _⟩
  · exact TyX.base (TyOf.tup h)
  · exact TyX.fTuple h
  · exact TyX.kTuple h1 h2
theorem kind_ty {Y : Lay} {G H : Hp} {d : D} {v : V} {k : String} (f : Le G H) (h : Vw Y G H d v) (e : kindD d = some k) : TyX Y.K H v (.type k) := by
  cases d with
  | non =>
    cases e
    rcases h with h | ⟨_, _, _, z, _⟩ | ⟨_, _, _, _, _, _, z, _⟩
    · rw [non_inv h]; exact TyX.base TyOf.non
    · cases z
    · cases z
  | bl b =>
    cases e
    rcases h with h | ⟨_, _, _, z, _⟩ | ⟨_, _, _, _, _, _, z, _⟩
    · rw [bl_inv h]; exact TyX.base (TyOf.bl b)
    · cases z
    · cases z
  | int b => cases e; rw [vw_int h]; exact TyX.base (TyOf.int b)
  | str b => cases e; rw [vw_str h]; exact TyX.base (TyOf.str _)
  | tup b =>
    cases e
    obtain ⟨a, vs, rfl, h1, _⟩ := vw_tup h
    exact sqT_ty (SqT.mono f h1)
  | lst b =>
    cases e
    obtain ⟨a, vs, rfl, h1, _⟩ := vw_lst f h
    exact TyX.base (TyOf.lst h1)
  | _ => cases e
/-- x and a class -/
def isE (f : D → Option Bool) (φ : DEnv → List D → Res D) (env : DEnv) (st : List D) : Res D := (φ env st).bind fun d st1 => match f d with
  | some b => .ok (.bl b) st1
  | none => .bad
/-- isinstance(a, T), T a built-in class -/
theorem de_isB {T : BT} {x y : Str} {p p2 : Pos} (hK : Z.Y.K = X.K) (hx : x = "isinstance") (hy : y = (T.nm : Str)) (hg : Gl X x) (hm : X.mg x = none) (hg2 : Gl X y) (hm2 : X.mg y = none) (ha : DS X Z a φ) (hs : starEach [a, .Name y p2] X.env = [(false, eval a X.env), (false, eval (.Name y p2) X.env)]) :
    DE X Z (.Call (.Name x p) [a, .Name y p2] [] pos) (isE (isBT T) φ) := by
  subst hx hy
  obtain ⟨t, q, rd⟩ := ha
  have hb : PE X (.Name (T.nm : Str) p2) (tC (.ty T.nm)) := pe_bltn (u := .type T.nm) hg2 hm2 (by cases T <;> decide +kernel) rfl (by cases T <;> decide +kernel) (by cases T <;> decide +kernel)
  refine ⟨_, pe_callB call_isi hg hm boot_isinstance (pa_cons q (pa_cons hb pa_nil) hs) (by decide) (by decide) hs rfl, fun σ H G env st Q er po => ?_⟩
  refine rd σ H G env st _ er (Post.bind po fun d st1 v G1 H1 e x row rv po1 => ?_)
  cases hi : isBT T d with
  | none => rw [hi] at po1; exact po1.elim
  | some r =>
    rw [hi] at po1
    obtain ⟨k, hk, hb⟩ := isBT_kit hi
    refine ⟨v, .ty T.nm, .type k, .type T.nm, r, rfl, ClsV.ty _, ?_, kit_ty hb, Post.here (R := rV Z.Y) po1 x.f row (rp_bl r)⟩
    rw [← hK]
    exact kind_ty x.f rv hk
/-- isinstance(a, (T, U)) -/
def isB2 (T U : BT) (d : D) : Option Bool := match isBT T d, isBT U d with
  | some r, some s => some (r || s)
  | _, _ => none
theorem de_isB2 {T U : BT} {x y z : Str} {p p2 p3 p4 : Pos} {k : Nat} (hK : Z.Y.K = X.K) (hx : x = "isinstance") (hy : y = (T.nm : Str)) (hz : z = (U.nm : Str)) (hg : Gl X x) (hm : X.mg x = none) (hg2 : Gl X y) (hm2 : X.mg y = none) (hg3 : Gl X z) (hm3 : X.mg z = none)
    (ha : DS X Z a φ) (hs : starEach [a, .Tuple [.Name y p2, .Name z p3] k p4] X.env = [(false, eval a X.env), (false, eval (.Tuple [.Name y p2, .Name z p3] k p4) X.env)]) :
    DE X Z (.Call (.Name x p) [a, .Tuple [.Name y p2, .Name z p3] k p4] [] pos) (isE (isB2 T U) φ) := by
  subst hx hy hz
  obtain ⟨t, q, rd⟩ := ha
  have hb : PE X (.Name (T.nm : Str) p2) (tC (.ty T.nm)) := pe_bltn (u := .type T.nm) hg2 hm2 (by cases T <;> decide +kernel) rfl (by cases T <;> decide +kernel) (by cases T <;> decide +kernel)
  have hb2 : PE X (.Name (U.nm : Str) p3) (tC (.ty U.nm)) := pe_bltn (u := .type U.nm) hg3 hm3 (by cases U <;> decide +kernel) rfl (by cases U <;> decide +kernel) (by cases U <;> decide +kernel)
  refine ⟨_, pe_callB call_isiT hg hm boot_isinstance (pa_cons q (pa_cons (pe_tup (pa_cons hb (pa_cons hb2 pa_nil rfl) rfl)) pa_nil) hs) (by decide) (by decide) hs rfl, fun σ H G env st Q er po => ?_⟩
  refine rd σ H G env st _ er (Post.bind po fun d st1 v G1 H1 e x row rv po1 => ?_)
  refine ⟨by show 2 ≤ sizeLine; decide, fun tp htp => ?_⟩
  have e2 : Ext Z.Y.M G1 H1 (upd G1 tp (.tup [.ty T.nm, .ty U.nm])) (upd H1 tp (.tup [.ty T.nm, .ty U.nm])) := Ext.new x.f htp
  have rv2 := rv.ext e2
  unfold isB2 at po1
  cases hi : isBT T d with
  | none => rw [hi] at po1; exact po1.elim
  | some r =>
    cases hj : isBT U d with
    | none => rw [hi, hj] at po1; exact po1.elim
    | some s =>
      rw [hi, hj] at po1
      obtain ⟨k, hk, hb⟩ := isBT_kit hi
      obtain ⟨k', hk', hb'⟩ := isBT_kit hj
      rw [hk] at hk'
      cases hk'
      refine ⟨v, tp, [.ty T.nm, .ty U.nm], .type k, [.type T.nm, .type U.nm], r || s, rfl, upd_same, .cons (ClsV.ty _) (.cons (ClsV.ty _) .nil), ?_, ?_, Post.new (R := rV Z.Y) po1 x.f row htp (rp_bl _)⟩
      · rw [← hK]
        exact kind_ty e2.f rv2 hk
      · have h1 : PySem.W.kitOne X.K (.type k) (.type T.nm) = some r := kit_ty hb
        have h2 : PySem.W.kitOne X.K (.type k) (.type U.nm) = some s := kit_ty hb'
        show PySem.W.kitAny X.K (.type k) [.type T.nm, .type U.nm] = some (r || s)
        rw [PySem.W.kitAny, h1]
        cases r with
        | true => rfl
        | false =>
          rw [PySem.W.kitAny, h2]
          cases s <;> rfl
end
end DL

set_option Elab.async false
set_option linter.all false
set_option maxRecDepth 100000
namespace DL
open PySem PySem.Spec PyProof.Rows L2

/-- what the rules ask of a body's context -/
structure Okc (X : Cx) (Z : Ct) (k : Nat) : Prop where
  K : Z.Y.K = X.K
  tk : Takes X Z.W
  room : Room k X.A
  calm : X.calm = true
  nd : X.N.Nodup
  gd : X.A.guards = some []
structure Oks (X : Cx) (Z : Ct) (k : Nat) : Prop extends Okc X Z k where
  po : PassesOwn (model X.prog X.w) X.A X.env X.xe

/-- how a statement ends -/
inductive SR where
  | nx (env : DEnv) (st : List D) | rt (d : D) (env : DEnv) (st : List D) | exc (c : Nat) (fs : List D) (st : List D) | bad
/-- from the entry (G0, H0) to here -/
structure En (M : Addr → Prop) (Nw : Addr → Prop) (G0 H0 G H : Hp) : Prop where
  w : ∀ a, H0 a = none → Nw a
  g : Le G0 G
  h : ∀ a o, H0 a = some o → ¬ M a → ¬ Nw a → H a = some o
  n : ∀ a o, G a = some o → G0 a = some o ∨ Nw a
section
variable {M : Addr → Prop} {Nw : Addr → Prop} {G0 H0 G H G1 H1 : Hp}
theorem En.new (e : En M Nw G0 H0 G H) {a : Addr} (z : H a = none) (r : ∀ x, M x → ∃ o, H x = some o) : Nw a := Classical.byContradiction fun nw => by
  cases q : H0 a with
  | none => exact nw (e.w a q)
  | some u =>
    by_cases ha : M a
    · obtain ⟨o, hr⟩ := r a ha
      rw [hr] at z; cases z
    · rw [e.h a u q ha nw] at z; cases z
theorem En.ext (e : En M Nw G0 H0 G H) (x : Ext M G H G1 H1) (r : ∀ x, M x → ∃ o, H x = some o) : En M Nw G0 H0 G1 H1 where
  w := e.w
  g := fun a o h => x.g _ _ (e.g a o h)
  h := fun a o h1 h2 h3 => x.h _ _ (e.h a o h1 h2 h3) h2
  n := fun a o h => by
    rcases x.n a o h with z | z
    · exact e.n a o z
    · exact .inr (e.new z r)
/-- one's own thing is written -/
theorem En.updA (e : En M Nw G0 H0 G H) {a : Addr} {o : HO} (nw : Nw a) : En M Nw G0 H0 G (upd H a o) where
  w := e.w
  g := e.g
  h := fun b u h1 h2 h3 => by rw [upd_ne (fun z => h3 (by rw [z]; exact nw))]; exact e.h b u h1 h2 h3
  n := e.n
/-- the row is written -/
theorem En.updR (e : En M Nw G0 H0 G H) {a : Addr} {o : HO} (m : M a) : En M Nw G0 H0 G (L2.upd H a o) where
  w := e.w
  g := e.g
  h := fun b u h1 h2 h3 => by rw [upd_ne (fun z => h2 (by rw [z]; exact m))]; exact e.h b u h1 h2 h3
  n := e.n
/-- one's own thing is frozen -/
theorem En.frz (e : En M Nw G0 H0 G H) {a : Addr} {o : HO} (nw : Nw a) (hn : G a = none) : En M Nw G0 H0 (L2.upd G a o) H where
  w := e.w
  g := fun b u h => by
    have := e.g b u h
    rw [upd_ne (fun z => by rw [z, hn] at this; cases this)]
    exact this
  h := e.h
  n := fun b u h => by
    by_cases z : b = a
    · exact .inr (z ▸ nw)
    · rw [upd_ne z] at h
      exact e.n b u h
/-- behind a def: its own things are new -/
theorem En.out (e : En M (fun a => H0 a = none) G0 H0 G H) (f : Le G H) : Ext M G0 H0 G H where
  g := e.g
  f := f
  h := fun a o h n => e.h a o h n (by rw [h]; exact fun z => by cases z)
  n := e.n
theorem En.start {G0 H0 : Hp} : En M (fun a => H0 a = none) G0 H0 G0 H0 := ⟨fun _ h => h, fun _ _ h => h, fun _ _ h _ _ => h, fun _ _ h => .inl h⟩
end

def SPost (Z : Ct) (G0 H0 : Hp) (r : SR) (D : Ends) : Prop := match r with
  | .nx env st => ∀ σ G H, ER Z.Y Z.fc Z.Nw G env st σ H → En Z.Y.M Z.Nw G0 H0 G H → D.nx σ H
  | .rt d env st => ∀ v σ G H, ER Z.Y Z.fc Z.Nw G env st σ H → En Z.Y.M Z.Nw G0 H0 G H → Rp Z.Y G d v → D.rt v H
  | .exc c fs st => ∀ cls dx σ G H, Le G H → RowR Z.Y G st H → En Z.Y.M Z.Nw G0 H0 G H → ExcR Z.Y G H c fs cls dx → Z.W cls dx σ H
  | .bad => False
section
variable (X : Cx) (Z : Ct)
def DSt (a : Stmt) (φ : DEnv → List D → SR) : Prop :=
  ∃ t, PS X a t ∧ ∀ G0 H0 σ H G env st E, ER Z.Y Z.fc Z.Nw G env st σ H → En Z.Y.M Z.Nw G0 H0 G H → SPost Z G0 H0 (φ env st) E → t E σ H
def DSs (a : List Stmt) (φ : DEnv → List D → SR) : Prop :=
  ∃ t, PSs X a t ∧ ∀ G0 H0 σ H G env st E, ER Z.Y Z.fc Z.Nw G env st σ H → En Z.Y.M Z.Nw G0 H0 G H → SPost Z G0 H0 (φ env st) E → t E σ H
end

def SR.bind (r : SR) (k : DEnv → List D → SR) : SR := match r with
  | .nx env st => k env st
  | r => r
def ofR {α : Type} (r : Res α) (k : α → List D → SR) : SR := match r with
  | .ok a st => k a st
  | .exc c fs st => .exc c fs st
  | .bad => .bad
section
variable {X : Cx} {Z : Ct} {k : Nat} {a b : Expr} {s : Stmt} {ss : List Stmt} {φ : DEnv → List D → Res D} {f g : DEnv → List D → SR} {pos : Pos}
/-- an expression ahead of a statement's end -/
theorem SPost.post {α β : Type} {R : Hp → Hp → α → β → Prop} {G0 H0 G H : Hp} {σ : L2.St} {env : DEnv} {st : List D} {r : Res α} {kk : α → List D → SR} {E : Ends} {Q : β → Hp → Prop}
    (er : ER Z.Y Z.fc Z.Nw G env st σ H) (en : En Z.Y.M Z.Nw G0 H0 G H) (po : SPost Z G0 H0 (ofR r kk) E)
    (h : ∀ x st1 v G1 H1, r = .ok x st1 → Ext Z.Y.M G H G1 H1 → ER Z.Y Z.fc Z.Nw G1 env st1 σ H1 → En Z.Y.M Z.Nw G0 H0 G1 H1 → R G1 H1 x v → SPost Z G0 H0 (kk x st1) E → Q v H1) : Post R Z G σ H r Q := by
  cases r with
  | ok x st1 => exact fun v G1 H1 e row rv => h x st1 v G1 H1 rfl e (er.ext e row) (en.ext e er.row.there) rv po
  | exc c fs st1 => exact fun cls dx G1 H1 e row ex => po cls dx σ G1 H1 e.f row (en.ext e er.row.there) ex
  | bad => exact po

/-! ### rows of statements -/
def nxS (env : DEnv) (st : List D) : SR := .nx env st
def seqS (f g : DEnv → List D → SR) (env : DEnv) (st : List D) : SR := (f env st).bind g
theorem ds_nil : DSs X Z [] nxS := ⟨_, pss_nil, fun G0 H0 σ H G env st E er en po => po σ G H er en⟩
theorem ds_cons (h : DSt X Z s f) (t : DSs X Z ss g) : DSs X Z (s :: ss) (seqS f g) := by
  obtain ⟨t1, p1, r1⟩ := h
  obtain ⟨t2, p2, r2⟩ := t
  refine ⟨_, pss_cons p1 p2, fun G0 H0 σ H G env st E er en po => ?_⟩
  refine r1 G0 H0 σ H G env st _ er en ?_
  unfold seqS at po
  cases q : f env st with
  | nx env1 st1 =>
    rw [q] at po
    exact fun σ1 G1 H1 er1 en1 => r2 G0 H0 σ1 H1 G1 env1 st1 E er1 en1 po
  | rt d env1 st1 => rw [q] at po; exact po
  | exc c fs st1 => rw [q] at po; exact po
  | bad => rw [q] at po; exact po
theorem ds_one (h : DSt X Z s f) : DSs X Z [s] f := by
  obtain ⟨t1, p1, r1⟩ := h
  exact ⟨_, pss_one p1, r1⟩
/-- a step that is none: the list or dict at slot i is frozen -/
def frzE (i : Nat) (env : DEnv) : DEnv := match env[i]? with
  | some (.own (.lst ds)) => env.set i (.val (.lst ds))
  | some (.own (.dct ks vs)) => env.set i (.val (.dct ks vs))
  | _ => env
def frzS (i : Nat) (f : DEnv → List D → SR) (env : DEnv) (st : List D) : SR := f (frzE i env) st
theorem ER.set_val {G H : Hp} {env : DEnv} {st : List D} {σ : L2.St} {i : Nat} {d : D} {v : V} (er : ER Z.Y Z.fc Z.Nw G env st σ H) (r : Rp Z.Y G d v) : ER Z.Y Z.fc Z.Nw G (env.set i (.val d)) st (σ.set i (some v)) H := by
  refine ⟨er.fz, fun j s hs => ?_, fun j k o u hj hk n => ?_, er.row⟩
  · by_cases e : i = j
    · subst e
      have hi : i < env.length := by
        by_cases z : i < env.length
        · exact z
        · rw [List.getElem?_eq_none (by simpa using z)] at hs; cases hs
      rw [List.getElem?_set_self hi] at hs
      cases hs
      obtain ⟨x, h1, _⟩ := er.sl i _ (List.getElem?_eq_getElem hi)
      have hi2 : i < σ.length := (List.getElem?_eq_some_iff.mp h1).1
      exact ⟨some v, by rw [List.getElem?_set_self hi2], v, rfl, r⟩
    · rw [List.getElem?_set_ne e] at hs ⊢
      exact er.sl j s hs
  · have f : ∀ {j : Nat} {o : Own}, (env.set i (.val d))[j]? = some (.own o) → i ≠ j ∧ env[j]? = some (.own o) := fun {j o} h => by
      by_cases e : i = j
      · subst e
        by_cases hi : i < env.length
        · rw [List.getElem?_set_self hi] at h; cases h
        · rw [List.getElem?_eq_none (by simpa using hi)] at h; cases h
      · exact ⟨e, by rwa [List.getElem?_set_ne e] at h⟩
    obtain ⟨n1, e1⟩ := f hj
    obtain ⟨n2, e2⟩ := f hk
    rw [List.getElem?_set_ne n1, List.getElem?_set_ne n2]
    exact er.dis j k o u e1 e2 n
/-- a thing at p that no other own slot has -/
theorem ER.set_own {G H : Hp} {env : DEnv} {st : List D} {σ : L2.St} {i : Nat} {o : Own} {p : Addr} (er : ER Z.Y Z.fc Z.Nw G env st σ H) (h : SlotR Z.Y Z.fc Z.Nw G H (some (.ref p)) (.own o)) (hd : ∀ j u, j ≠ i → env[j]? = some (.own u) → σ[j]? ≠ some (some (.ref p))) :
    ER Z.Y Z.fc Z.Nw G (env.set i (.own o)) st (σ.set i (some (.ref p))) H := by
  refine ⟨er.fz, fun j s hs => ?_, fun j k o1 u hj hk n => ?_, er.row⟩
  · by_cases e : i = j
    · subst e
      have hi : i < env.length := by
        by_cases z : i < env.length
        · exact z
        · rw [List.getElem?_eq_none (by simpa using z)] at hs; cases hs
      rw [List.getElem?_set_self hi] at hs
      cases hs
      obtain ⟨x, h1, _⟩ := er.sl i _ (List.getElem?_eq_getElem hi)
      have hi2 : i < σ.length := (List.getElem?_eq_some_iff.mp h1).1
      exact ⟨some (.ref p), by rw [List.getElem?_set_self hi2], h⟩
    · rw [List.getElem?_set_ne e] at hs ⊢
      exact er.sl j s hs
  · have f : ∀ {j : Nat} {o1 : Own}, (env.set i (.own o))[j]? = some (.own o1) → i ≠ j → env[j]? = some (.own o1) := fun {j o1} h e => by
      rwa [List.getElem?_set_ne e] at h
    have l : ∀ {j : Nat} {o1 : Own}, (env.set i (.own o))[j]? = some (.own o1) → j < env.length := fun {j o1} h => by
      have := (List.getElem?_eq_some_iff.mp h).1
      simpa using this
    have ls : ∀ {j : Nat}, j < env.length → j < σ.length := fun {j} z => by
      obtain ⟨x, h1, _⟩ := er.sl j _ (List.getElem?_eq_getElem z)
      exact (List.getElem?_eq_some_iff.mp h1).1
    by_cases e1 : i = j
    · subst e1
      rw [List.getElem?_set_self (ls (l hj)), List.getElem?_set_ne n]
      exact fun z => hd k u (fun q => n q.symm) (f hk n) z.symm
    · by_cases e2 : i = k
      · subst e2
        rw [List.getElem?_set_self (ls (l hk)), List.getElem?_set_ne e1]
        exact hd j o1 (fun q => e1 q.symm) (f hj e1)
      · rw [List.getElem?_set_ne e1, List.getElem?_set_ne e2]
        exact er.dis j k o1 u (f hj e1) (f hk e2) n
theorem ER.frz {G0 H0 G H : Hp} {env : DEnv} {st : List D} {σ : L2.St} (i : Nat) (er : ER Z.Y Z.fc Z.Nw G env st σ H) (en : En Z.Y.M Z.Nw G0 H0 G H) : ∃ G1, ER Z.Y Z.fc Z.Nw G1 (frzE i env) st σ H ∧ En Z.Y.M Z.Nw G0 H0 G1 H := by
  -- the thing at a, its object o
  have main : ∀ (a : Addr) (o : HO) (d : D), σ[i]? = some (some (.ref a)) → G a = none → ¬ Z.Y.M a → Z.Nw a → H a = some o → (∀ C dx fs, o ≠ .ins C dx fs) → (∀ j u, j ≠ i → env[j]? = some (.own u) → σ[j]? ≠ some (some (.ref a))) → Rp Z.Y (upd G a o) d (.ref a) →
      ∃ G1, ER Z.Y Z.fc Z.Nw G1 (env.set i (.val d)) st σ H ∧ En Z.Y.M Z.Nw G0 H0 G1 H := fun a o d hσ hg hr hn ho hni hdis hrp => by
    have le : Le G (upd G a o) := fun b u h => by rw [upd_ne (ne_of_none h hg)]; exact h
    refine ⟨upd G a o, ⟨?_, fun j s hs => ?_, fun j k o1 u hj hk n => ?_, ?_⟩, en.frz hn hg⟩
    · intro b u h
      by_cases e : b = a
      · subst e; rw [upd_same] at h; cases h; exact ho
      · rw [upd_ne e] at h; exact er.fz b u h
    · by_cases e : i = j
      · subst e
        have hi : i < env.length := by
          by_cases z : i < env.length
          · exact z
          · rw [List.getElem?_eq_none (by simpa using z)] at hs; cases hs
        rw [List.getElem?_set_self hi] at hs
        cases hs
        exact ⟨_, hσ, _, rfl, hrp⟩
      · rw [List.getElem?_set_ne e] at hs
        obtain ⟨x, h1, h2⟩ := er.sl j s hs
        refine ⟨x, h1, ?_⟩
        cases s with
        | un => trivial
        | slf c ks fs =>
          obtain ⟨b0, b1, b2, b3, dx, vs, b4, b5, b6⟩ := h2
          have nb : Z.fc ≠ a := fun z => by rw [z, ho] at b4; exact hni _ _ _ (Option.some.inj b4)
          exact ⟨b0, by rw [upd_ne nb]; exact b1, b2, b3, dx, vs, b4, b5, RpL.mono le b6⟩
        | val d' => obtain ⟨v, h3, h4⟩ := h2; exact ⟨v, h3, Rp.mono le h4⟩
        | own o' =>
          obtain ⟨b, h3, h4, h5, h6, h7⟩ := h2
          have nb : b ≠ a := fun z => hdis j o' (fun q => e q.symm) hs (by rw [h1, h3, z])
          refine ⟨b, h3, by rw [upd_ne nb]; exact h4, h5, h6, ?_⟩
          cases o' with
          | lst ds => obtain ⟨vs, q1, q2⟩ := h7; exact ⟨vs, q1, RpL.mono le q2⟩
          | dct ks ws => obtain ⟨o, vs, us, q0, q1, q2, q3⟩ := h7; exact ⟨o, vs, us, q0, q1, RpL.mono le q2, RpL.mono le q3⟩
    · have f : ∀ {j : Nat} {o1 : Own}, (env.set i (.val d))[j]? = some (.own o1) → env[j]? = some (.own o1) := fun {j o1} h => by
        by_cases e : i = j
        · subst e
          by_cases hi : i < env.length
          · rw [List.getElem?_set_self hi] at h; cases h
          · rw [List.getElem?_eq_none (by simpa using hi)] at h; cases h
        · rwa [List.getElem?_set_ne e] at h
      exact er.dis j k o1 u (f hj) (f hk) n
    · obtain ⟨vs, q1, q2, q3, q4, q5⟩ := er.row
      exact ⟨vs, q1, by rw [upd_ne (fun z => hr (.inl z.symm))]; exact q2, RpL.mono le q3, q4, fun p hp => by rw [upd_ne (fun z => hr (.inr ⟨p.2, by rw [← z]; exact hp⟩))]; exact q5 p hp⟩
  unfold frzE
  cases he : env[i]? with
  | none => exact ⟨G, er, en⟩
  | some sl =>
    cases sl with
    | un => exact ⟨G, er, en⟩
    | val d => exact ⟨G, er, en⟩
    | slf c ks fs => exact ⟨G, er, en⟩
    | own o =>
      obtain ⟨x, h1, a, h2, h3, h4, h5, h6⟩ := er.sl i _ he
      subst h2
      have dis : ∀ j u, j ≠ i → env[j]? = some (.own u) → σ[j]? ≠ some (some (.ref a)) := fun j u n hj z => er.dis j i u o hj he n (by rw [z, h1])
      have le : ∀ o, Le G (upd G a o) := fun o b u h => by rw [upd_ne (ne_of_none h h3)]; exact h
      cases o with
      | lst ds =>
        obtain ⟨vs, q1, q2⟩ := h6
        exact main a _ (.lst ds) h1 h3 h4 h5 q1 (fun _ _ _ z => nomatch z) dis (rp_lst upd_same (RpL.mono (le _) q2))
      | dct ks ws =>
        obtain ⟨ob, vs, us, q0, q1, q2, q3⟩ := h6
        refine main a _ (.dct ks ws) h1 h3 h4 h5 q0 (Z.Y.dni _ _ _ _ q1) dis ?_
        rw [Rp]
        exact ⟨a, ob, vs, us, rfl, upd_same, q1, RpL.mono (le _) q2, RpL.mono (le _) q3⟩
theorem ds_frz {i : Nat} (h : DSs X Z ss f) : DSs X Z ss (frzS i f) := by
  obtain ⟨t, p, r⟩ := h
  refine ⟨_, p, fun G0 H0 σ H G env st E er en po => ?_⟩
  obtain ⟨G1, er1, en1⟩ := ER.frz i er en
  exact r G0 H0 σ H G1 _ st E er1 en1 po

/-! ### return, if, expressions -/
def retS (φ : DEnv → List D → Res D) (env : DEnv) (st : List D) : SR := ofR (φ env st) fun d st1 => .rt d env st1
theorem ds_ret (h : DE X Z a φ) : DSt X Z (.Return (some a) pos) (retS φ) := by
  obtain ⟨t, p, rd⟩ := h
  refine ⟨_, ps_ret p, fun G0 H0 σ H G env st E er en po => rd σ H G env st _ er (SPost.post er en po fun d st1 v G1 H1 _ _ er1 en1 rv po1 => po1 v σ G1 H1 er1 en1 rv)⟩
def retNS (env : DEnv) (st : List D) : SR := .rt .non env st
theorem ds_retN : DSt X Z (.Return none pos) retNS := ⟨_, ps_retN, fun G0 H0 σ H G env st E er en po => po .non σ G H er en rp_non⟩
def ifS (c : DEnv → List D → Res Bool) (f g : DEnv → List D → SR) (env : DEnv) (st : List D) : SR := ofR (c env st) fun b st1 => match b with
  | true => f env st1
  | false => g env st1
theorem ds_if {χ : DEnv → List D → Res Bool} {as bs : List Stmt} (hc : DT X Z a χ) (ha : DSs X Z as f) (hb : DSs X Z bs g) : DSt X Z (.If a as bs pos) (ifS χ f g) := by
  obtain ⟨t, p, rd⟩ := hc
  obtain ⟨t1, p1, r1⟩ := ha
  obtain ⟨t2, p2, r2⟩ := hb
  refine ⟨_, ps_if p p1 p2, fun G0 H0 σ H G env st E er en po => rd σ H G env st _ er (SPost.post er en po fun d st1 v G1 H1 _ _ er1 en1 rv po1 => ?_)⟩
  subst rv
  cases d with
  | true => rw [if_pos rfl]; exact r1 G0 H0 σ H1 G1 env st1 E er1 en1 po1
  | false => rw [if_neg Bool.false_ne_true]; exact r2 G0 H0 σ H1 G1 env st1 E er1 en1 po1
theorem ds_doc {x : Str} {j} {p2 : Pos} : DSt X Z (.Expr (.Constant (.str x) j pos) p2) nxS := ⟨_, ps_doc, fun G0 H0 σ H G env st E er en po => po σ G H er en⟩
theorem ds_pass : DSt X Z (.Pass pos) nxS := ⟨_, ps_pass, fun G0 H0 σ H G env st E er en po => po σ G H er en⟩
def exprS (φ : DEnv → List D → Res D) (env : DEnv) (st : List D) : SR := ofR (φ env st) fun _ st1 => .nx env st1
theorem ds_expr (h : DE X Z a φ) (hs : swapsWith a none pos.line X.env = pure false) : DSt X Z (.Expr a pos) (exprS φ) := by
  obtain ⟨t, p, rd⟩ := h
  refine ⟨_, ps_expr p hs, fun G0 H0 σ H G env st E er en po => rd σ H G env st _ er (SPost.post er en po fun d st1 v G1 H1 _ _ er1 en1 rv po1 => po1 σ G1 H1 er1 en1)⟩
/-- code that the proof never comes to -/
def neverS (_ : DEnv) (_ : List D) : SR := .bad
theorem ds_never : DSt X Z s neverS := ⟨_, ps_never, fun G0 H0 σ H G env st E er en po => po.elim⟩
theorem dss_never : DSs X Z ss neverS := ⟨_, pss_never, fun G0 H0 σ H G env st E er en po => po.elim⟩

/-! ### names bound -/
def setS (i : Nat) (φ : DEnv → List D → Res D) (env : DEnv) (st : List D) : SR := ofR (φ env st) fun d st1 => .nx (env.set i (.val d)) st1
theorem ds_set {i : Nat} {x : Str} {p2 : Pos} (o : Okc X Z k) (hi : X.N[i]? = some x) (hx : Loc X.env.scope x) (h : DE X Z a φ) (hs : swapsWith a (some (.Name x p2)) pos.line X.env = pure false) (hf : X.fn x = true ∨ X.env.scope.names.lookup x = some .local) :
    DSt X Z (.Assign [.Name x p2] a pos) (setS i φ) := by
  obtain ⟨t, p, rd⟩ := h
  refine ⟨_, ps_set o.nd hi hx p hs hf, fun G0 H0 σ H G env st E er en po => rd σ H G env st _ er (SPost.post er en po fun d st1 v G1 H1 _ _ er1 en1 rv po1 => ?_)⟩
  exact po1 _ G1 H1 (er1.set_val rv) en1
/-- x = [a, ..], a list of one's own -/
def setOwnS (i : Nat) (ψ : DEnv → List D → Res (List D)) (env : DEnv) (st : List D) : SR := ofR (ψ env st) fun ds st1 => if ds.length ≤ SZ then .nx (env.set i (.own (.lst ds))) st1 else .bad
/-- a new own thing, not frozen -/
theorem ER.lay_own {G0 H0 G H : Hp} {env : DEnv} {st : List D} {σ : L2.St} {i : Nat} {p : Addr} {vs : List V} {ds : List D} (er : ER Z.Y Z.fc Z.Nw G env st σ H) (en : En Z.Y.M Z.Nw G0 H0 G H) (hp : H p = none) (r : RpL Z.Y G ds vs) :
    ER Z.Y Z.fc Z.Nw G (env.set i (.own (.lst ds))) st (σ.set i (some (.ref p))) (upd H p (.lst vs)) ∧ En Z.Y.M Z.Nw G0 H0 G (upd H p (.lst vs)) := by
  have nr : ¬ Z.Y.M p := er.row.newM hp
  have e : Ext Z.Y.M G H G (upd H p (.lst vs)) := Ext.lay er.fz hp
  have er1 := er.ext e (er.row.monoN e hp)
  refine ⟨ER.set_own er1 ⟨p, rfl, ?_, nr, en.new hp er.row.there, vs, upd_same, r⟩ fun j u n hj z => ?_, en.ext e er.row.there⟩
  · cases q : G p with
    | none => rfl
    | some o => rw [er.fz _ _ q] at hp; cases hp
  · obtain ⟨x, h1, b, h2, h3, h4, h5, h6⟩ := er.sl j _ hj
    rw [z, h2] at h1
    cases h1
    obtain ⟨w, hw⟩ := h6.there
    rw [hp] at hw; cases hw
theorem ds_setOwn {i : Nat} {x : Str} {p2 p3 : Pos} {as : List Expr} {ψ : DEnv → List D → Res (List D)} (o : Okc X Z k) (hi : X.N[i]? = some x) (hx : Loc X.env.scope x) (h : DA X Z as ψ) (hs : swapsWith (.List as p3) (some (.Name x p2)) pos.line X.env = pure false) (hf : X.fn x = true ∨ X.env.scope.names.lookup x = some .local) :
    DSt X Z (.Assign [.Name x p2] (.List as p3) pos) (setOwnS i ψ) := by
  obtain ⟨t, p, rd⟩ := h
  refine ⟨_, ps_set o.nd hi hx (pe_lst p) hs hf, fun G0 H0 σ H G env st E er en po => rd σ H G env st _ er (SPost.post er en po fun ds st1 vs G1 H1 _ _ er1 en1 rv po1 => ?_)⟩
  have rv : RpL Z.Y G1 ds vs := rv
  by_cases hl : ds.length ≤ SZ
  · rw [if_pos hl] at po1
    refine ⟨by rw [← rv.length, sz_line]; exact hl, fun q hq => ?_⟩
    obtain ⟨er2, en2⟩ := ER.lay_own (i := i) er1 en1 hq rv
    exact po1 _ _ _ er2 en2
  · rw [if_neg hl] at po1
    exact po1.elim
end
end DL

set_option Elab.async false
set_option linter.all false
set_option maxRecDepth 100000
/-! Calls whose contexts bear no repr under way (A.guards = some []): the layer's FnOk and its rules with that premise. -/
namespace DL
open PySem PySem.Spec PyProof.Rows L2

/-- a def's promise, kept where no repr is under way -/
structure FnG (P : Program) (w : World) (K : PySem.W.Frag) (mg : Str → Option Value) (base : Heap) (CX : CXT) (k : Nat) (f : Addr) (fd : FuncData) (ps : List Str) (sp : Sp) : Prop where
  len : ∀ vs H Q E, sp vs H Q E → vs.length = ps.length
  run : ∀ (A : Around) (outer : List Env) (s : Shared) (H : Hp) (args : Args) (us : List Value) (vs : List V) (Q : VK) (E : XK), Room k A → A.guards = some [] → Env0 P w K mg base A outer s H → BindsTo s fd args (ps.zip us) → Vals vs us → sp vs H Q E →
    codeAny (model P w) A (.call (.ref f) args) (CR CX outer P w H s Q E) s
section
variable {P : Program} {w : World} {K : PySem.W.Frag} {mg : Str → Option Value} {base : Heap} {CX : CXT} {j k : Nat} {f : Addr} {fd : FuncData} {ps : List Str} {sp : Sp}
theorem FnG.mono (F : FnG P w K mg base CX j f fd ps sp) (h : j ≤ k) : FnG P w K mg base CX k f fd ps sp := ⟨F.len, fun A outer s H args us vs Q E hr => F.run A outer s H args us vs Q E (hr.mono h)⟩
theorem FnG.imp {sp' : Sp} (F : FnG P w K mg base CX k f fd ps sp) (h : ∀ vs H Q E, sp' vs H Q E → sp vs H Q E) : FnG P w K mg base CX k f fd ps sp' :=
  ⟨fun vs H Q E q => F.len vs H Q E (h _ _ _ _ q), fun A outer s H args us vs Q E hr hg he hb hv hs => F.run A outer s H args us vs Q E hr hg he hb hv (h _ _ _ _ hs)⟩
end
section
variable {X : Cx} {CX : CXT} {k : Nat} {f C : Addr} {fd : FuncData} {ps : List Str} {sp : Sp} {E : L2.St → XK} {Ec : XK} {x m : Str} {p pos apos : Pos} {e o : Expr} {es : List Expr} {ta : TE} {t : TA}
theorem run_fnSG {pins : List (Addr × Obj)} {σ : L2.St} {H : Hp} {s : Shared} {Q : VK} {us : List Value} {vs : List V} (F : FnG X.prog X.w X.K X.mg X.base CX k f fd ps sp) (hr : Room k X.A) (hG : X.A.guards = some []) (hb : Binds X.K fd ps []) (hx : PassesAt CX X σ (E σ))
    (I : Inv X pins σ H s) (r : Vals vs us) (h : sp vs H Q (E σ)) : wpAny (model X.prog X.w) X.A (call (.ref f) us) (EP X pins σ Q) X.xe s := by
  have hl : us.length = ps.length := by rw [← r.length]; exact F.len _ _ _ _ h
  have b := hb s us I.kIn (by rw [List.append_nil]; exact hl)
  rw [List.append_nil] at b
  refine wpAny_call (codeAny_mono (F.run X.A X.stack s H ⟨us, []⟩ us vs Q (E σ) hr hG I.env0 b r h) fun r s' hq => ?_)
  cases r with
  | error e => exact hx pins H s e s' I hq
  | ok fl =>
    cases fl with
    | ret u => exact I.after hq
    | next => exact False.elim hq
    | brk => exact False.elim hq
    | cont => exact False.elim hq
theorem pe_callSG (F : FnG X.prog X.w X.K X.mg X.base CX k f fd ps sp) (hr : Room k X.A) (hG : X.A.guards = some []) (hg : Gl X x) (hm : X.mg x = some (.ref f)) (hk : PySem.W.keepIn X.K (.ref f) = true) (hb : Binds X.K fd ps []) (hx : ∀ σ, PassesAt CX X σ (E σ))
    (ha : PA X (e :: es) t) (hdb : (x == ("__debug__" : Str)) = false) (he : starEach (e :: es) X.env = (false, eval e X.env) :: starEach es X.env) (hpl : (backTo pos (starEach es X.env)).any (·.1) = false) :
    PE X (.Call (.Name x p) (e :: es) [] pos) (tCallS sp E t) := by
  refine ⟨fun pins s σ H Q I h => ?_⟩
  refine wpAny_Call_Name_kw (ld_glob I hg hm ?_ hdb)
  refine PySem.W.callWith_K (h₀ := X.base) I.ok.mod.kin hk (thn (ha.run pos pins s σ H _ I h) fun us s1 ⟨vs, H1, I1, r, q⟩ => ⟨I1.kIn, ?_⟩) he hpl
  exact run_fnSG F hr hG hb (hx σ) I1 r q
theorem pe_callSG0 (F : FnG X.prog X.w X.K X.mg X.base CX k f fd ps sp) (hr : Room k X.A) (hG : X.A.guards = some []) (hg : Gl X x) (hm : X.mg x = some (.ref f)) (hk : PySem.W.keepIn X.K (.ref f) = true) (hb : Binds X.K fd ps []) (hx : ∀ σ, PassesAt CX X σ (E σ))
    (hdb : (x == ("__debug__" : Str)) = false) : PE X (.Call (.Name x p) [] [] pos) (tCallS sp E tNil) := by
  refine ⟨fun pins s σ H Q I h => ?_⟩
  refine wpAny_Call_Name_kw (ld_glob I hg hm ?_ hdb)
  exact PySem.W.callWith_K0 I.kIn hk (run_fnSG (us := []) F hr hG hb (hx σ) I .nil h)
/-- o.m(e, ..) -/
def tMethS (C : Addr) (m : Str) (sp : Sp) (E : L2.St → XK) (ta : TE) (t : TA) : TE := fun σ H Q => ta σ H fun x H1 => ∃ a dx fs, x = .ref a ∧ H1 a = some (.ins C dx fs) ∧ fs.lookup m = none ∧
  t σ H1 fun vs H2 => sp (x :: vs) H2 Q (E σ)
theorem pe_methG {pl : Sem Bool} (he : PE X o ta) (c : Cls X.K C) (hm : Meth X.K C m f) (F : FnG X.prog X.w X.K X.mg X.base CX k f fd ps sp) (hr : Room k X.A) (hG : X.A.guards = some []) (hb : Binds X.K fd ps []) (hx : ∀ σ, PassesAt CX X σ (E σ)) (ha : PA X (e :: es) t)
    (hst : starEach (e :: es) X.env = (false, eval e X.env) :: starEach es X.env) (hpl : (backTo pos (starEach es X.env)).any (·.1) = false)
    (ht : eval (.Call (.Attribute o m apos) (e :: es) [] pos) X.env = (do
      let ov ← eval o X.env
      standAt apos.atName
      let (f, first) ← holding [ov] (getMethod ov m pl)
      callWith pos f first (backTo pos (starEach (e :: es) X.env)) (backToKw pos (keywordEach [] X.env)))) :
    PE X (.Call (.Attribute o m apos) (e :: es) [] pos) (tMethS C m sp E ta t) := by
  refine ⟨fun pins s σ H Q I h => ?_⟩
  refine PySem.W.methodCall_KW (pl := pl) (thn (he.run pins s σ H _ I h) fun u s1 ⟨x, H1, I1, rx, a, dx, fs, ex, ea, l, q⟩ => ?_) ht
  subst ex
  obtain rfl : u = Value.ref a := rx
  refine getmeth_ok I1 ea c hm l ?_
  refine PySem.W.callWith_K (first := [.ref a]) (h₀ := X.base) I.ok.mod.kin hm.kp (thn (ha.run pos pins s1 σ H1 _ I1 q) fun us s2 ⟨vs, H2, I2, r, q2⟩ => ⟨I2.kIn, ?_⟩) hst hpl
  exact run_fnSG (us := .ref a :: us) (vs := .ref a :: vs) F hr hG hb (hx σ) I2 (.cons rfl r) q2
theorem pe_methG0 {pl : Sem Bool} (he : PE X o ta) (c : Cls X.K C) (hm : Meth X.K C m f) (F : FnG X.prog X.w X.K X.mg X.base CX k f fd ps sp) (hr : Room k X.A) (hG : X.A.guards = some []) (hb : Binds X.K fd ps []) (hx : ∀ σ, PassesAt CX X σ (E σ))
    (ht : eval (.Call (.Attribute o m apos) [] [] pos) X.env = (do
      let ov ← eval o X.env
      standAt apos.atName
      let (f, first) ← holding [ov] (getMethod ov m pl)
      callWith pos f first (backTo pos (starEach [] X.env)) (backToKw pos (keywordEach [] X.env)))) :
    PE X (.Call (.Attribute o m apos) [] [] pos) (tMethS C m sp E ta tNil) := by
  refine ⟨fun pins s σ H Q I h => ?_⟩
  refine PySem.W.methodCall_KW (pl := pl) (thn (he.run pins s σ H _ I h) fun u s1 ⟨x, H1, I1, rx, a, dx, fs, ex, ea, l, q⟩ => ?_) ht
  subst ex
  obtain rfl : u = Value.ref a := rx
  refine getmeth_ok I1 ea c hm l ?_
  exact PySem.W.callWith_K0 (first := [.ref a]) I1.kIn hm.kp (run_fnSG (us := [.ref a]) (vs := [.ref a]) F hr hG hb (hx σ) I1 (.cons rfl .nil) q)
theorem guards_make {A : Around} {C : Addr} {us : List Value} {kw : List (Str × Value)} (h : A.guards = some []) : (A.under (.builtin "type.__call__" ⟨.ref C :: us, kw⟩)).guards = some [] := by
  have e : (Code.builtin "type.__call__" ⟨.ref C :: us, kw⟩).guards = [] := by
    first | rfl | simp [Code.guards, Code.isGuard, guardIds]
  simp [Around.under, e, h, pushGuards]
theorem run_makeG {pins : List (Addr × Obj)} {σ : L2.St} {H : Hp} {s : Shared} {Q : VK} {us : List Value} {vs : List V} (M : Mk X.K C f) (F : FnG X.prog X.w X.K X.mg X.base CX k f fd ps sp) (hr : Room (k + 1) X.A) (hG : X.A.guards = some []) (hb : Binds X.K fd ps [])
    (hx : PassesAt CX X σ (E σ)) (I : Inv X pins σ H s) (r : Vals vs us)
    (h : ∀ x dx, H x = none → H dx = none → dx ≠ x → sp (.ref x :: vs) (upd (upd H dx (.own x)) x (.ins C dx [])) (fun v H2 => v = .non ∧ Q (.ref x) H2) (E σ)) :
    wpAny (model X.prog X.w) X.A (call (.ref C) us) (EP X pins σ Q) X.xe s := by
  have hq := h (s.heap.objs.size + 1) s.heap.objs.size (I.hok.fresh (Nat.le_succ _)) (I.hok.fresh (Nat.le_refl _)) (Nat.ne_of_lt (Nat.lt_succ_self _))
  have I2 := Inv.made (C := C) I
  have r2 : Vals (V.ref (s.heap.objs.size + 1) :: vs) (Value.ref (s.heap.objs.size + 1) :: us) := .cons rfl r
  have hl : (Value.ref (s.heap.objs.size + 1) :: us).length = ps.length := by
    have e := r2.length
    rw [F.len _ _ _ _ hq] at e
    exact e.symm
  have b := hb _ (Value.ref (s.heap.objs.size + 1) :: us) I2.kIn (by rw [List.append_nil]; exact hl)
  rw [List.append_nil] at b
  refine wpAny_call (make_map (f := f) I.kIn M.makes M.init (beq_iff_eq.mp M.fn) (codeAny_mono (F.run _ X.stack _ _ ⟨Value.ref (s.heap.objs.size + 1) :: us, []⟩ (Value.ref (s.heap.objs.size + 1) :: us) _ _ (E σ) (hr.make C us []) (guards_make hG)
    (I2.env0.make C us []) b r2 hq) fun r s' hq' => ?_))
  cases r with
  | error e => exact hx pins _ _ e s' I2 hq'
  | ok fl =>
    cases fl with
    | ret u =>
      obtain ⟨v, H', I3, rv, ev, q3⟩ := I2.after hq'
      subst ev
      exact ⟨rv, ⟨V.ref (s.heap.objs.size + 1), H', I3, rfl, q3⟩⟩
    | next => exact False.elim hq'
    | brk => exact False.elim hq'
    | cont => exact False.elim hq'
def tMakeS (C : Addr) (sp : Sp) (E : L2.St → XK) (t : TA) : TE := fun σ H Q => t σ H fun vs H1 => ∀ x dx, H1 x = none → H1 dx = none → dx ≠ x →
  sp (.ref x :: vs) (upd (upd H1 dx (.own x)) x (.ins C dx [])) (fun v H2 => v = .non ∧ Q (.ref x) H2) (E σ)
theorem pe_makeG (M : Mk X.K C f) (F : FnG X.prog X.w X.K X.mg X.base CX k f fd ps sp) (hr : Room (k + 1) X.A) (hG : X.A.guards = some []) (hg : Gl X x) (hm : X.mg x = some (.ref C)) (hb : Binds X.K fd ps []) (hx : ∀ σ, PassesAt CX X σ (E σ))
    (ha : PA X (e :: es) t) (hdb : (x == ("__debug__" : Str)) = false) (he : starEach (e :: es) X.env = (false, eval e X.env) :: starEach es X.env) (hpl : (backTo pos (starEach es X.env)).any (·.1) = false) :
    PE X (.Call (.Name x p) (e :: es) [] pos) (tMakeS C sp E t) := by
  refine ⟨fun pins s σ H Q I h => ?_⟩
  refine wpAny_Call_Name_kw (ld_glob I hg hm ?_ hdb)
  refine PySem.W.callWith_K (h₀ := X.base) I.ok.mod.kin M.kp (thn (ha.run pos pins s σ H _ I h) fun us s1 ⟨vs, H1, I1, r, q⟩ => ⟨I1.kIn, ?_⟩) he hpl
  exact run_makeG M F hr hG hb (hx σ) I1 r q
/-- the i-th slot holds the def at f -/
def tCallLS (i : Nat) (f : Addr) (sp : Sp) (E : L2.St → XK) (t : TA) : TE := fun σ H Q => σ[i]? = some (some (.ref f)) ∧ t σ H fun vs H1 => sp vs H1 Q (E σ)
theorem pe_callLG {i : Nat} (F : FnG X.prog X.w X.K X.mg X.base CX k f fd ps sp) (hr : Room k X.A) (hG : X.A.guards = some []) (hN : X.N[i]? = some x) (hv : Vis X.env.scope x) (hk : PySem.W.keepIn X.K (.ref f) = true) (hb : Binds X.K fd ps []) (hx : ∀ σ, PassesAt CX X σ (E σ)) (ha : PA X (e :: es) t)
    (hdb : (x == ("__debug__" : Str)) = false) (hcd : (x == ("__classdict__" : Str)) = false) (he : starEach (e :: es) X.env = (false, eval e X.env) :: starEach es X.env) (hpl : (backTo pos (starEach es X.env)).any (·.1) = false) : PE X (.Call (.Name x p) (e :: es) [] pos) (tCallLS i f sp E t) := by
  refine ⟨fun pins s σ H Q I h => ?_⟩
  obtain ⟨hs, ht⟩ := h
  refine wpAny_Call_Name_kw (thn ((pe_var (pos := p) hN hv hdb hcd).run pins s σ H (fun v H1 => v = .ref f ∧ H1 = H) I ⟨.ref f, hs, rfl, rfl⟩) fun u s1 ⟨v, H1, I1, r1, q1⟩ => ?_)
  obtain ⟨rfl, rfl⟩ := q1
  cases r1
  refine PySem.W.callWith_K (h₀ := X.base) I.ok.mod.kin hk (thn (ha.run pos pins s1 σ _ _ I1 ht) fun us s2 ⟨vs, H2, I2, r, q⟩ => ⟨I2.kIn, ?_⟩) he hpl
  exact run_fnSG F hr hG hb (hx σ) I2 r q
end
/-- a def by its body, where no repr is under way -/
theorem fng_of {CX : CXT} {P : Program} {w : World} {K : PySem.W.Frag} {mg : Str → Option Value} {base : Heap} {k : Nat} {f : Addr} {x qual : Str} {params : Arguments} {body : List Stmt} {scope : Scope} {dvs : List V} {kws : List (Str × V)} {fd : FuncData} {N ps : List Str} {sp : Sp}
    (F : FunD K x qual params body scope dvs kws f fd) (S : FnScope N ps scope) (len : ∀ vs H Q E, sp vs H Q E → vs.length = ps.length)
    (hbody : ∀ (cdv : Value) (A : Around) (outer : List Env) (s : Shared) (H : Hp) (vs : List V) (Q : VK) (E : XK), Room k (A.deeper (envOfC qual scope s.heap.objs.size f cdv)) → A.guards = some [] → sp vs H Q E →
      ∃ t, PSs (cxOf CX P w K mg base N qual scope f cdv A outer s H E) body t ∧ t { nx := fun _ H' => Q .non H', rt := Q } (L2.start N vs) H) :
    FnG P w K mg base CX (k + 1) f fd ps sp := by
  obtain ⟨oc, od, dV, kV, doc, pm, an, cdv, ct, osl, rfl, lk, hcd, _, _⟩ := F.ex
  refine ⟨len, fun A outer s H args us vs Q E hr hG e0 hb r hsp => ?_⟩
  have hl := len _ _ _ _ hsp
  have KX : K.In s.heap := e0.mod.kin.keeps fun b o e => (e0.bs b o e).1
  have lim : s.heap.NoLimit := e0.mod.nolimit.keeps fun b o e => (e0.bs b o e).1
  have hkind : ∀ y ∈ ps.zip us, scope.names.lookup y.1 = some .local ∨ (scope.names.lookup y.1 = some .cell ∧ ((cellsFrom (s.heap.objs.size + 1) scope.names []).lookup y.1).isSome = true) := fun ⟨n, v⟩ hy => by
    rcases S.par n (List.of_mem_zip hy).1 with q | q
    · exact .inl q
    · exact .inr ⟨q, PySem.W.cellsFrom_some _ _ _ (.inl q)⟩
  refine codeAny_call_function hr.depth (KX _ _ lk) rfl S.co S.gen rfl (PySem.W.codeRec_of KX hcd) (hb _ _ _ _ ?_)
  refine wpAny_newFunctionEnv_cells S.kind hkind fun env he s1 x => ?_
  subst he
  refine ⟨lim.keeps x.toInCall.keep, codeAny_func ?_⟩
  obtain ⟨t, ht, hq⟩ := hbody cdv A outer s H vs Q E (hr.deeper _) hG hsp
  have I : Inv (cxOf CX P w K mg base N qual scope f cdv A outer s H E) [] (L2.start N vs) H s1 := inv_start S hr.hd e0 hl r x
  refine wpAny_mono (ht.run [] s1 (L2.start N vs) H _ I hq) (fun fl s' hs => ?_) fun e s' hs => hs
  have fin : ∀ {σ' : L2.St} {H' : Hp} {v : V} {u : Value}, Inv (cxOf CX P w K mg base N qual scope f cdv A outer s H E) [] σ' H' s' → RelV v u → Q v H' → CE outer P w H s Q u s' :=
    fun {σ' H' v u} J rv q => ⟨v, H', J.os, J.bare, J.base, J.hok, rv, q⟩
  cases fl with
  | ret u =>
    obtain ⟨v, σ', H', J, rv, q⟩ := hs
    exact fin J rv q
  | next =>
    obtain ⟨σ', H', J, q⟩ := hs
    exact fin (v := V.non) (u := Value.none) J rfl q
  | brk =>
    obtain ⟨_, _, _, q⟩ := hs
    exact False.elim q
  | cont =>
    obtain ⟨_, _, _, q⟩ := hs
    exact False.elim q
end DL

set_option Elab.async false
set_option linter.all false
set_option maxRecDepth 100000
namespace DL
open PySem PySem.Spec PyProof.Rows L2

/-- what a call leaves -/
def CPost (Y : Lay) (G H : Hp) (r : Res D) (Q : VK) (E : XK) : Prop := match r with
  | .ok d st => ∀ v G' H', Ext Y.M G H G' H' → RowR Y G' st H' → Rp Y G' d v → Q v H'
  | .exc c fs st => ∀ cls dx G' H', Ext Y.M G H G' H' → RowR Y G' st H' → ExcR Y G' H' c fs cls dx → E cls dx H'
  | .bad => False
theorem Post.c {Z : Ct} {G H : Hp} {σ : L2.St} {r : Res D} {Q : VK} (h : Post (rV Z.Y) Z G σ H r Q) : CPost Z.Y G H r Q (WE Z.W σ) := by
  cases r with
  | ok d st => exact h
  | exc c fs st => exact h
  | bad => exact h
/-- the promise of a def that computes Φ -/
def spD (Y : Lay) (Φ : List D → List D → Res D) : Sp := fun vs H Q E => ∃ ρ G st ds, RpL { Y with ρ := ρ } G ds vs ∧ Le G H ∧ RowR { Y with ρ := ρ } G st H ∧ CPost { Y with ρ := ρ } G H (Φ ds st) Q E
structure FnC (P : Program) (w : World) (K : PySem.W.Frag) (mg : Str → Option Value) (base : Heap) (k : Nat) (f : Addr) (Y : Lay) (Φ : List D → List D → Res D) : Prop where
  ex : ∃ fd ps, FnG P w K mg base (L2.CX P w) k f fd ps (spD Y Φ) ∧ PySem.W.keepIn K (.ref f) = true ∧ Binds K fd ps []
theorem FnC.mono {P : Program} {w : World} {K : PySem.W.Frag} {mg : Str → Option Value} {base : Heap} {j k : Nat} {f : Addr} {Y : Lay} {Φ : List D → List D → Res D} (F : FnC P w K mg base j f Y Φ) (h : j ≤ k) : FnC P w K mg base k f Y Φ := by
  obtain ⟨fd, ps, F, a, b⟩ := F.ex
  exact ⟨fd, ps, F.mono h, a, b⟩
/-- a body's end as a value -/
def SR.val (r : SR) : Res D := match r with
  | .nx _ st => .ok .non st
  | .rt d _ st => .ok d st
  | .exc c fs st => .exc c fs st
  | .bad => .bad
/-- a def of n parameters and m names -/
def defD (n m : Nat) (φ : DEnv → List D → SR) (ds st : List D) : Res D := if ds.length = n then (φ (ds.map Sl.val ++ List.replicate (m - n) Sl.un) st).val else .bad
theorem start_er {Y : Lay} {fc : Addr} {Nw : Addr → Prop} {G H : Hp} {N : List Str} {ds st : List D} {vs : List V} {n : Nat} (f : Le G H) (row : RowR Y G st H) (r : RpL Y G ds vs) (hn : ds.length = n) (hN : n ≤ N.length) :
    ER Y fc Nw G (ds.map Sl.val ++ List.replicate (N.length - n) Sl.un) st (L2.start N vs) H := by
  have hl := r.length
  refine ⟨f, fun i s hs => ?_, fun i j o u hi => ?_, row⟩
  · unfold L2.start
    by_cases hi : i < ds.length
    · rw [List.getElem?_append_left (by simpa using hi), List.getElem?_map] at hs
      rw [List.getElem?_append_left (by simpa using hl ▸ hi), List.getElem?_map]
      cases e : ds[i]? with
      | none => rw [e] at hs; cases hs
      | some d =>
        rw [e] at hs
        cases hs
        obtain ⟨v, hv, rv⟩ := r.get e
        rw [hv]
        exact ⟨some v, rfl, v, rfl, rv⟩
    · rw [List.getElem?_append_right (by simpa using hi)] at hs
      rw [List.getElem?_append_right (by simp; omega)]
      rw [List.getElem?_replicate] at hs ⊢
      simp only [List.length_map] at hs ⊢
      split at hs
      · cases hs
        rw [if_pos (by omega)]
        exact ⟨none, rfl, True.intro⟩
      · cases hs
  · exfalso
    by_cases hi' : i < ds.length
    · rw [List.getElem?_append_left (by simpa using hi'), List.getElem?_map] at hi
      cases e : ds[i]? with
      | none => rw [e] at hi; cases hi
      | some d => rw [e] at hi; cases hi
    · rw [List.getElem?_append_right (by simpa using hi'), List.getElem?_replicate] at hi
      split at hi <;> cases hi
section
variable {P : Program} {w : World} {K : PySem.W.Frag} {mg : Str → Option Value} {base : Heap} {x qual : Str} {params : Arguments} {body : List Stmt} {scope : Scope} {f : Addr} {fd : FuncData}
abbrev zOf (Y : Lay) (ρ : Addr) (H : Hp) (E : XK) : Ct := { Y := { Y with ρ := ρ }, W := fun cls d _ H => E cls d H, fc := 0, Nw := fun a => H a = none }
theorem oks_of {Y : Lay} {ρ : Addr} {N : List Str} {k : Nat} {cdv : Value} {A : Around} {outer : List Env} {s : Shared} {H : Hp} {E : XK} (hK : Y.K = K) (hN : N.Nodup) (hr : Room k (A.deeper (envOfC qual scope s.heap.objs.size f cdv))) (hG : A.guards = some []) :
    Oks (cxOf (L2.CX P w) P w K mg base N qual scope f cdv A outer s H E) (zOf Y ρ H E) k where
  K := hK
  tk := takes_of (E := E) rfl rfl rfl rfl
  room := hr
  calm := rfl
  nd := hN
  gd := by show (A.deeper _).guards = some []; simpa [Around.deeper] using hG
  po := passes_of rfl
theorem fnc_of {kws : List (Str × V)} {N ps : List Str} {Y : Lay} {k : Nat} {φ : DEnv → List D → SR} (hK : Y.K = K) (F : FunD K x qual params body scope [] kws f fd) (S : FnScope N ps scope) (hb : Binds K fd ps []) (hN : ps.length ≤ N.length)
    (h : ∀ (ρ : Addr) (cdv : Value) (A : Around) (outer : List Env) (s : Shared) (H : Hp) (E : XK), Oks (cxOf (L2.CX P w) P w K mg base N qual scope f cdv A outer s H E) (zOf Y ρ H E) k → DSs (cxOf (L2.CX P w) P w K mg base N qual scope f cdv A outer s H E) (zOf Y ρ H E) body φ) :
    FnC P w K mg base (k + 1) f Y (defD ps.length N.length φ) := by
  refine ⟨fd, ps, fng_of F S (fun vs H Q E hs => ?_) (fun cdv A outer s H vs Q E hr hG hs => ?_), F.kp, hb⟩
  · obtain ⟨ρ, G, st, ds, r, fz, row, po⟩ := hs
    by_cases hl : ds.length = ps.length
    · rw [← r.length]; exact hl
    · rw [defD, if_neg hl] at po
      exact po.elim
  · obtain ⟨ρ, G, st, ds, r, fz, row, po⟩ := hs
    by_cases hl : ds.length = ps.length
    · rw [defD, if_pos hl] at po
      obtain ⟨t, pt, rd⟩ := h ρ cdv A outer s H E (oks_of hK S.nd hr hG)
      refine ⟨t, pt, rd G H _ H G _ st _ (start_er fz row r hl hN) En.start ?_⟩
      generalize hq : φ (ds.map Sl.val ++ List.replicate (N.length - ps.length) Sl.un) st = q at po ⊢
      cases q with
      | nx env1 st1 => exact fun σ1 G1 H1 er en => po .non G1 H1 (en.out er.fz) er.row rp_non
      | rt d env1 st1 => exact fun v σ1 G1 H1 er en rv => po v G1 H1 (en.out er.fz) er.row rv
      | exc c fs st1 => exact fun cls dx σ1 G1 H1 f1 row1 en ex => po cls dx G1 H1 (en.out f1) row1 ex
      | bad => exact po
    · rw [defD, if_neg hl] at po
      exact po.elim
end
section
variable {X : Cx} {Z : Ct} {k : Nat} {f : Addr} {Φ : List D → List D → Res D} {x : Str} {e : Expr} {es : List Expr} {p pos : Pos} {ψ : DEnv → List D → Res (List D)}
def callE (Φ : List D → List D → Res D) (ψ : DEnv → List D → Res (List D)) (env : DEnv) (st : List D) : Res D := (ψ env st).bind fun ds st1 => Φ ds st1
theorem de_call (o : Okc X Z k) (F : FnC X.prog X.w X.K X.mg X.base k f Z.Y Φ) (hm : X.mg x = some (.ref f)) (hg : Gl X x) (ha : DA X Z (e :: es) ψ) (hdb : (x == ("__debug__" : Str)) = false)
    (he : starEach (e :: es) X.env = (false, eval e X.env) :: starEach es X.env) (hpl : (backTo pos (starEach es X.env)).any (·.1) = false) : DE X Z (.Call (.Name x p) (e :: es) [] pos) (callE Φ ψ) := by
  obtain ⟨t, q, rd⟩ := ha
  obtain ⟨fd, ps, F, hk, hb⟩ := F.ex
  refine ⟨_, pe_callSG F o.room o.gd hg hm hk hb (E := WE Z.W) (fun σ => passAt o.tk σ) q hdb he hpl, fun σ H G env st Q er po => ?_⟩
  refine rd σ H G env st _ er (Post.bind po fun ds st1 vs G1 H1 e1 x1 row rv po1 => ?_)
  exact ⟨Z.Y.ρ, G1, st1, ds, rv, x1.f, row, po1.c⟩
theorem de_call0 (o : Okc X Z k) (F : FnC X.prog X.w X.K X.mg X.base k f Z.Y Φ) (hm : X.mg x = some (.ref f)) (hg : Gl X x) (hdb : (x == ("__debug__" : Str)) = false) : DE X Z (.Call (.Name x p) [] [] pos) (callE Φ nilA) := by
  obtain ⟨fd, ps, F, hk, hb⟩ := F.ex
  exact ⟨_, pe_callSG0 F o.room o.gd hg hm hk hb (E := WE Z.W) (fun σ => passAt o.tk σ) hdb, fun σ H G env st Q er po => ⟨Z.Y.ρ, G, st, [], RpL.nil, er.fz, er.row, Post.c (r := Φ [] st) po⟩⟩
/-- a call of what a name holds: T tells the defs -/
def callLE (i : Nat) (T : Nat → Option (List D → List D → Res D)) (ψ : DEnv → List D → Res (List D)) (env : DEnv) (st : List D) : Res D := match env[i]? with
  | some (.val (.fn j)) => (match T j with
    | some Φ => (ψ env st).bind fun ds st1 => Φ ds st1
    | none => .bad)
  | _ => .bad
theorem de_callL {i : Nat} {T : Nat → Option (List D → List D → Res D)} (o : Okc X Z k) (F : ∀ j Φ, T j = some Φ → FnC X.prog X.w X.K X.mg X.base k (Z.Y.F j) Z.Y Φ) (hN : X.N[i]? = some x) (hv : Vis X.env.scope x) (ha : DA X Z (e :: es) ψ) (hdb : (x == ("__debug__" : Str)) = false)
    (hcd : (x == ("__classdict__" : Str)) = false) (he : starEach (e :: es) X.env = (false, eval e X.env) :: starEach es X.env) (hpl : (backTo pos (starEach es X.env)).any (·.1) = false) : DE X Z (.Call (.Name x p) (e :: es) [] pos) (callLE i T ψ) := by
  obtain ⟨t, q, rd⟩ := ha
  let tt : TE := fun σ H Q => ∃ j Φ, T j = some Φ ∧ σ[i]? = some (some (.ref (Z.Y.F j))) ∧ t σ H fun vs H1 => spD Z.Y Φ vs H1 Q (WE Z.W σ)
  refine ⟨tt, ⟨fun pins s σ H Q I h => ?_⟩, fun σ H G env st Q er po => ?_⟩
  · obtain ⟨j, Φ, hT, hs, ht⟩ := h
    obtain ⟨fd, ps, F, hk, hb⟩ := (F j Φ hT).ex
    exact (pe_callLG (i := i) (f := Z.Y.F j) (sp := spD Z.Y Φ) (E := WE Z.W) F o.room o.gd hN hv hk hb (fun σ => passAt o.tk σ) q hdb hcd he hpl).run pins s σ H Q I ⟨hs, ht⟩
  · unfold callLE at po
    cases he : env[i]? with
    | none => rw [he] at po; exact po.elim
    | some sl =>
      rw [he] at po
      cases sl with
      | val d =>
        cases d with
        | fn j =>
          cases hT : T j with
          | none => simp only [hT] at po; exact po.elim
          | some Φ =>
            simp only [hT] at po
            obtain ⟨x', h1, v, h2, h3⟩ := er.sl i _ he
            rw [h2, fn_inv h3] at h1
            refine ⟨j, Φ, hT, h1, rd σ H G env st _ er (Post.bind po fun ds st1 vs G1 H1 e1 x1 row rv po1 => ?_)⟩
            exact ⟨Z.Y.ρ, G1, st1, ds, rv, x1.f, row, Post.c po1⟩
        | _ => exact po.elim
      | _ => exact po.elim
end
end DL

set_option Elab.async false
set_option linter.all false
set_option maxRecDepth 100000
namespace DL
open PySem PySem.Spec PyProof.Rows L2

/-! ### what is walked -/
/-- J walks the data ds, from (G1) on -/
def ItD (Y : Lay) (G1 : Hp) (ds : List D) (J : It) : Prop := ∀ i G H, Le G1 G → Le G H → (∀ a, Y.M a → ∃ o, H a = some o) →
  (∀ d, ds[i]? = some d → J.go i H ∧ ∀ x H', J.yld i H x H' → ∃ G', Ext Y.M G H G' H' ∧ (∀ a, Y.M a → H' a = H a) ∧ Rp Y G' d x) ∧ (i = ds.length → J.stop i H)
section
variable (X : Cx) (Z : Ct)
def DI (tg iter : Expr) (φ : DEnv → List D → Res (List D)) : Prop :=
  ∃ wi, PI X tg iter wi ∧ ∀ σ H G env st (R : It → Hp → Prop), ER Z.Y Z.fc Z.Nw G env st σ H → Post (fun G _ ds J => ItD Z.Y G ds J) Z G σ H (φ env st) R → wi σ H R
/-- a target of names, among the slots vs -/
def DG (tg : Expr) (vs : List Nat) (γ : D → DEnv → Option DEnv) : Prop :=
  ∃ g, PG X tg g ∧ ∀ v d σ H G env st env' (Q : L2.St → Hp → Prop), ER Z.Y Z.fc Z.Nw G env st σ H → Rp Z.Y G d v → γ d env = some env' → (∀ σ', ER Z.Y Z.fc Z.Nw G env' st σ' H → wipe σ' vs = wipe σ vs → Q σ' H) → g v σ H Q
def DGs (tgs : List Expr) (vs : List Nat) (γ : List D → DEnv → Option DEnv) : Prop :=
  ∃ g, PGs X tgs g ∧ ∀ us ds σ H G env st env' (Q : L2.St → Hp → Prop), ER Z.Y Z.fc Z.Nw G env st σ H → RpL Z.Y G ds us → γ ds env = some env' → (∀ σ', ER Z.Y Z.fc Z.Nw G env' st σ' H → wipe σ' vs = wipe σ vs → Q σ' H) → g us σ H Q
end
section
variable {X : Cx} {Z : Ct} {k : Nat}
theorem wipe_set {σ : L2.St} {i : Nat} {x : Option V} : ∀ {vs : List Nat}, i ∈ vs → wipe (σ.set i x) vs = wipe σ vs
  | v :: vs, h => by
    unfold wipe
    by_cases e : i ∈ vs
    · rw [wipe_set e]
    · have hv : i = v := by
        rcases List.mem_cons.mp h with z | z
        · exact z
        · exact absurd z e
      subst hv
      have aux : ∀ ws : List Nat, i ∉ ws → wipe (σ.set i x) ws = (wipe σ ws).set i x := fun ws => by
        induction ws with
        | nil => intro _; rfl
        | cons w ws ih =>
          intro hw
          unfold wipe
          rw [ih (fun z => hw (List.mem_cons_of_mem _ z)), List.set_comm]
          exact fun z => hw (by rw [z]; exact List.mem_cons_self)
      rw [aux vs e, List.set_set]
def gnD (i : Nat) (d : D) (env : DEnv) : Option DEnv := some (env.set i (.val d))
theorem dg_name {i : Nat} {x : Str} {pos : Pos} {vs : List Nat} (o : Okc X Z k) (hi : X.N[i]? = some x) (hx : Loc X.env.scope x) (hf : X.fn x = true ∨ X.env.scope.names.lookup x = some .local) (hm : i ∈ vs) : DG X Z (.Name x pos) vs (gnD i) :=
  ⟨_, pg_name o.nd hi hx hf, fun v d σ H G env st env' Q er r e q => by cases e; exact q _ (er.set_val r) (wipe_set hm)⟩
def gNilD (ds : List D) (env : DEnv) : Option DEnv := match ds with
  | [] => some env
  | _ => none
def gConsD (γ : D → DEnv → Option DEnv) (δ : List D → DEnv → Option DEnv) (ds : List D) (env : DEnv) : Option DEnv := match ds with
  | d :: ds => (γ d env).bind (δ ds)
  | [] => none
theorem dgs_nil {vs : List Nat} : DGs X Z [] vs gNilD :=
  ⟨_, pgs_nil, fun us ds σ H G env st env' Q er r e q => by
    cases ds with
    | nil => cases e; exact ⟨r.nil_inv, q σ er rfl⟩
    | cons d ds => cases e⟩
theorem dgs_cons {e : Expr} {es : List Expr} {vs : List Nat} {γ : D → DEnv → Option DEnv} {δ : List D → DEnv → Option DEnv} (h : DG X Z e vs γ) (t : DGs X Z es vs δ)
    (hs : (assignEach (e :: es) X.env).map (·.2) = assign e X.env :: (assignEach es X.env).map (·.2)) : DGs X Z (e :: es) vs (gConsD γ δ) := by
  obtain ⟨g, p, rd⟩ := h
  obtain ⟨u, p2, rd2⟩ := t
  refine ⟨_, pgs_cons p p2 hs, fun us ds σ H G env st env' Q er r e q => ?_⟩
  cases ds with
  | nil => cases e
  | cons d ds =>
    obtain ⟨v, rr, rfl, rv, rt⟩ := r.cons_inv
    obtain ⟨env1, e1, e2⟩ := Option.bind_eq_some_iff.mp e
    refine ⟨v, rr, rfl, rd v d σ H G env st env1 _ er rv e1 fun σ1 er1 w1 => rd2 rr ds σ1 H G env1 st env' Q er1 rt e2 fun σ2 er2 w2 => q σ2 er2 (w2.trans w1)⟩
def gTupD (n : Nat) (δ : List D → DEnv → Option DEnv) (d : D) (env : DEnv) : Option DEnv := match d with
  | .tup ds => if ds.length = n then δ ds env else none
  | _ => none
theorem dg_tup {es : List Expr} {kk n : Nat} {pos : Pos} {vs : List Nat} {δ : List D → DEnv → Option DEnv} (o : Okc X Z k) (h : DGs X Z es vs δ) (hn : (assignEach es X.env).length = n) (hst : (assignEach es X.env).findIdx? (·.1) = none) : DG X Z (.Tuple es kk pos) vs (gTupD n δ) := by
  obtain ⟨g, p, rd⟩ := h
  refine ⟨_, pg_tup o.calm p hn hst, fun v d σ H G env st env' Q er r e q => ?_⟩
  unfold gTupD at e
  split at e
  · rename_i ds
    split at e
    · rename_i hl
      obtain ⟨a, us, rfl, h1, h2⟩ := tup_inv r
      refine ⟨a, us, rfl, ?_, by rw [← h2.length]; exact hl, rd us ds σ H G env st env' Q er h2 e q⟩
      rw [← o.K]
      exact SqT.mono er.fz h1
    · cases e
  · cases e

/-! ### for -/
def forL (γ : D → DEnv → Option DEnv) (f : DEnv → List D → SR) : List D → DEnv → List D → SR
  | [], env, st => .nx env st
  | d :: ds, env, st => match γ d env with
    | none => .bad
    | some env1 => (f env1 st).bind fun env2 st2 => forL γ f ds env2 st2
def forS (γ : D → DEnv → Option DEnv) (φ : DEnv → List D → Res (List D)) (f : DEnv → List D → SR) (env : DEnv) (st : List D) : SR := ofR (φ env st) fun ds st1 => forL γ f ds env st1
theorem En.trans {M : Addr → Prop} {Nw : Addr → Prop} {G0 H0 G1 H1 G H : Hp} (a : En M Nw G0 H0 G1 H1) (b : En M Nw G1 H1 G H) : En M Nw G0 H0 G H where
  w := a.w
  g := fun x o h => b.g x o (a.g x o h)
  h := fun x o h1 h2 h3 => b.h x o (a.h x o h1 h2 h3) h2 h3
  n := fun x o h => (b.n x o h).elim (fun z => a.n x o z) .inr
theorem En.here {M : Addr → Prop} {Nw : Addr → Prop} {G0 H0 G1 H1 : Hp} (a : En M Nw G0 H0 G1 H1) (r : ∀ x, M x → ∃ o, H1 x = some o) : En M Nw G1 H1 G1 H1 where
  w := fun _ h => a.new h r
  g := fun _ _ h => h
  h := fun _ _ h _ _ => h
  n := fun _ _ h => .inl h
theorem SPost.trans {G0 H0 G1 H1 : Hp} {r : SR} {E : Ends} (a : En Z.Y.M Z.Nw G0 H0 G1 H1) (h : SPost Z G0 H0 r E) : SPost Z G1 H1 r E := by
  cases r with
  | nx env st => exact fun σ G H er en => h σ G H er (a.trans en)
  | rt d env st => exact fun v σ G H er en rv => h v σ G H er (a.trans en) rv
  | exc c fs st => exact fun cls dx σ G H f row en ex => h cls dx σ G H f row (a.trans en) ex
  | bad => exact h
theorem ds_for {tg iter : Expr} {body : List Stmt} {pos : Pos} {vs : List Nat} {γ : D → DEnv → Option DEnv} {φ : DEnv → List D → Res (List D)} {f : DEnv → List D → SR} (o : Oks X Z k) (hi : DI X Z tg iter φ) (hg : DG X Z tg vs γ) (hb : DSs X Z body f)
    (hs : ∀ x, foldedSetIterable iter X.env x = pure x) : DSt X Z (.For tg iter body [] pos) (forS γ φ f) := by
  obtain ⟨wi, p, rd⟩ := hi
  obtain ⟨g, pg, rg⟩ := hg
  obtain ⟨tb, pb, rb⟩ := hb
  refine ⟨_, ps_for o.po o.calm p pg pb hs, fun G0 H0 σ H G env st E er en po => ?_⟩
  refine rd σ H G env st _ er (SPost.post er en po fun ds st1 J G1 H1 _ _ er1 en1 hJ po1 => ?_)
  have hJ : ItD Z.Y G1 ds J := hJ
  have po2 := SPost.trans en1 po1
  refine ⟨fun i m σ H => i + m = ds.length ∧ ∃ env st G, ER Z.Y Z.fc Z.Nw G env st σ H ∧ En Z.Y.M Z.Nw G1 H1 G H ∧ SPost Z G1 H1 (forL γ f (ds.drop i) env st) E,
    ⟨ds.length, by omega, env, st1, G1, er1, en1.here er1.row.there, po2⟩, ?_⟩
  rintro i m σ2 H2 ⟨him, env2, st2, G2, er2, en2, po3⟩
  obtain ⟨j1, j2⟩ := hJ i G2 H2 en2.g er2.fz er2.row.there
  cases hd : ds[i]? with
  | none =>
    have hle : ds.length ≤ i := List.getElem?_eq_none_iff.mp hd
    rw [List.drop_of_length_le hle] at po3
    exact .inl ⟨j2 (by omega), po3 σ2 G2 H2 er2 en2⟩
  | some d =>
    obtain ⟨g1, g2⟩ := j1 d hd
    have hlt : i < ds.length := (List.getElem?_eq_some_iff.mp hd).1
    have hdrop : ds.drop i = d :: ds.drop (i + 1) := by
      rw [List.drop_eq_getElem_cons hlt]
      rw [List.getElem?_eq_getElem hlt] at hd
      cases hd; rfl
    rw [hdrop] at po3
    refine .inr ⟨g1, fun σ H => ∃ env st G, ER Z.Y Z.fc Z.Nw G env st σ H ∧ En Z.Y.M Z.Nw G1 H1 G H ∧ SPost Z G1 H1 (forL γ f (ds.drop (i + 1)) env st) E, fun σ' H' hN => ⟨m - 1, by omega, by omega, hN⟩, fun x H' hy => ?_⟩
    obtain ⟨G', ext, hρ, rx⟩ := g2 x H' hy
    have er3 := er2.ext ext (er2.row.mono ext hρ)
    have en3 := en2.ext ext er2.row.there
    unfold forL at po3
    cases hγ : γ d env2 with
    | none => rw [hγ] at po3; exact po3.elim
    | some env3 =>
      simp only [hγ] at po3
      refine rg x d σ2 H' G' env2 st2 env3 _ er3 rx hγ fun σ3 er4 _ => ?_
      refine rb G1 H1 σ3 H' G' env3 st2 _ er4 en3 ?_
      generalize hq : f env3 st2 = r at po3 ⊢
      cases r with
      | nx env4 st4 => exact fun σ5 G5 H5 er5 en5 => ⟨env4, st4, G5, er5, en5, po3⟩
      | rt d env4 st4 => exact po3
      | exc c fs st4 => exact po3
      | bad => exact po3
def asgS (γ : D → DEnv → Option DEnv) (φ : DEnv → List D → Res D) (env : DEnv) (st : List D) : SR := ofR (φ env st) fun d st1 => match γ d env with
  | some env1 => .nx env1 st1
  | none => .bad
/-- a target of names = a value -/
theorem ds_asg {tg e : Expr} {pos : Pos} {vs : List Nat} {γ : D → DEnv → Option DEnv} {φ : DEnv → List D → Res D} (he : DE X Z e φ) (hg : DG X Z tg vs γ) (hs : swapsWithSole [tg] e pos.line X.env = pure false) (hw : swappedStores [tg] e X.env = pure none)
    (h1 : (assignEach [tg] X.env).map (·.2) = [assign tg X.env]) : DSt X Z (.Assign [tg] e pos) (asgS γ φ) := by
  obtain ⟨t, p, rd⟩ := he
  obtain ⟨g, pg, rg⟩ := hg
  refine ⟨_, ps_asg p pg hs hw h1, fun G0 H0 σ H G env st E er en po => rd σ H G env st _ er (SPost.post er en po fun d st1 v G1 H1 _ _ er1 en1 rv po1 => ?_)⟩
  cases hγ : γ d env with
  | none => simp only [hγ] at po1; exact po1.elim
  | some env1 =>
    simp only [hγ] at po1
    exact rg v d σ H1 G1 env st1 env1 _ er1 rv hγ fun σ2 er2 _ => po1 σ2 G1 H1 er2 en1

/-! ### list comprehensions -/
/-- no exception out of a block -/
abbrev Ct.quiet (Z : Ct) : Ct := { Z with W := fun _ _ _ _ => False }
def noX {α : Type} (r : Res α) : Res α := match r with
  | .exc _ _ _ => .bad
  | r => r
theorem Post.noX {α β : Type} {R : Hp → Hp → α → β → Prop} {G H : Hp} {σ : L2.St} {r : Res α} {Q : β → Hp → Prop} (h : Post R Z G σ H (noX r) Q) : Post R Z.quiet G σ H r Q := by
  cases r with
  | ok a st => exact h
  | exc c fs st => exact h.elim
  | bad => exact h
theorem okc_quiet (o : Okc X Z k) : Okc X Z.quiet k := ⟨o.K, fun u s' x => by obtain ⟨_, _, _, _, _, _, _, _, _, _, _, _, _, _, _, _, w⟩ := x; exact w.elim, o.room, o.calm, o.nd, o.gd⟩
theorem okc_blk {s : Shared} {H : Hp} {scope : Scope} {env : Env} {fp : List Addr} (o : Okc X Z k) : Okc (X.blk s H scope env fp) Z.quiet k := ⟨o.K, fun u s' x => by obtain ⟨_, _, _, _, _, _, _, _, _, _, _, _, _, _, _, _, w⟩ := x; exact w.elim, o.room, o.calm, o.nd, o.gd⟩
/-- the block's own names are forgotten -/
def wipeE (env : DEnv) : List Nat → DEnv
  | [] => env
  | v :: vs => (wipeE env vs).set v .un
theorem ER.wipe1 {G H : Hp} {env : DEnv} {st : List D} {σ : L2.St} {i : Nat} (er : ER Z.Y Z.fc Z.Nw G env st σ H) : ER Z.Y Z.fc Z.Nw G (env.set i .un) st (σ.set i none) H := by
  refine ⟨er.fz, fun j s hs => ?_, fun j k o u hj hk n => ?_, er.row⟩
  · by_cases e : i = j
    · subst e
      have hi : i < env.length := by
        by_cases z : i < env.length
        · exact z
        · rw [List.getElem?_eq_none (by simpa using z)] at hs; cases hs
      rw [List.getElem?_set_self hi] at hs
      cases hs
      obtain ⟨x, h1, _⟩ := er.sl i _ (List.getElem?_eq_getElem hi)
      have hi2 : i < σ.length := (List.getElem?_eq_some_iff.mp h1).1
      exact ⟨none, by rw [List.getElem?_set_self hi2], True.intro⟩
    · rw [List.getElem?_set_ne e] at hs ⊢
      exact er.sl j s hs
  · have f : ∀ {j : Nat} {o : Own}, (env.set i .un)[j]? = some (.own o) → i ≠ j ∧ env[j]? = some (.own o) := fun {j o} h => by
      by_cases e : i = j
      · subst e
        by_cases hi : i < env.length
        · rw [List.getElem?_set_self hi] at h; cases h
        · rw [List.getElem?_eq_none (by simpa using hi)] at h; cases h
      · exact ⟨e, by rwa [List.getElem?_set_ne e] at h⟩
    obtain ⟨n1, e1⟩ := f hj
    obtain ⟨n2, e2⟩ := f hk
    rw [List.getElem?_set_ne n1, List.getElem?_set_ne n2]
    exact er.dis j k o u e1 e2 n
theorem ER.wipe {G H : Hp} {env : DEnv} {st : List D} {σ : L2.St} (er : ER Z.Y Z.fc Z.Nw G env st σ H) : ∀ vs : List Nat, ER Z.Y Z.fc Z.Nw G (wipeE env vs) st (L2.wipe σ vs) H
  | [] => er
  | v :: vs => (ER.wipe er vs).wipe1
def lcL (γ : D → DEnv → Option DEnv) (c : DEnv → List D → Res Bool) (φ : DEnv → List D → Res D) (env : DEnv) : List D → List D → List D → Res (List D)
  | [], st, acc => .ok acc st
  | d :: ds, st, acc => match γ d env with
    | none => .bad
    | some env1 => (noX (c env1 st)).bind fun b st1 => match b with
      | true => (noX (φ env1 st1)).bind fun y st2 => if acc.length < SZ then lcL γ c φ env ds st2 (acc ++ [y]) else .bad
      | false => lcL γ c φ env ds st1 acc
def lcA (vs : List Nat) (it : DEnv → List D → Res (List D)) (γ : D → DEnv → Option DEnv) (c : DEnv → List D → Res Bool) (φ : DEnv → List D → Res D) (env : DEnv) (st : List D) : Res (List D) := (it env st).bind fun ds st1 => lcL γ c φ (wipeE env vs) ds st1 []
def lcE (vs : List Nat) (it : DEnv → List D → Res (List D)) (γ : D → DEnv → Option DEnv) (c : DEnv → List D → Res Bool) (φ : DEnv → List D → Res D) (env : DEnv) (st : List D) : Res D := (lcA vs it γ c φ env st).bind fun ds st1 => .ok (.lst ds) st1
/-- tests of a comprehension -/
def DTs (X : Cx) (Z : Ct) (ifs : List Expr) (φ : DEnv → List D → Res Bool) : Prop :=
  ∃ t, PTs X ifs t ∧ ∀ σ H G env st Q, ER Z.Y Z.fc Z.Nw G env st σ H → Post (fun _ _ (d b : Bool) => d = b) Z G σ H (φ env st) Q → t σ H Q
def yesT (_ : DEnv) (st : List D) : Res Bool := .ok true st
theorem dts_nil : DTs X Z [] yesT := ⟨_, pts_nil, fun σ H G env st Q er po => Post.here (R := fun _ _ (d b : Bool) => d = b) po er.fz er.row rfl⟩
theorem dts_one {c : Expr} {φ : DEnv → List D → Res Bool} (h : DT X Z c φ) : DTs X Z [c] φ := by
  obtain ⟨t, p, rd⟩ := h
  exact ⟨_, pts_one p, rd⟩
/-- a block's place -/
structure Bq where
  s : Shared
  H : Hp
  C : Addr
  cl : List (Str × Addr)
  fp : List Addr
abbrev Bq.cx (q : Bq) (X : Cx) (scope : Scope) : Cx := X.blk q.s q.H scope (compEnvC scope q.cl q.C X.env) q.fp
theorem uni_e {B : Bq → Cx} {a : Expr} {φ : DEnv → List D → Res D} (h : ∀ q, DE (B q) Z a φ) : ∃ t, (∀ q, PE (B q) a t) ∧ ∀ σ H G env st Q, ER Z.Y Z.fc Z.Nw G env st σ H → Post (rV Z.Y) Z G σ H (φ env st) Q → t σ H Q :=
  ⟨fun σ H Q => ∀ q, (h q).choose σ H Q, fun q => ⟨fun pins s σ H Q I ht => (h q).choose_spec.1.run pins s σ H Q I (ht q)⟩, fun σ H G env st Q er po q => (h q).choose_spec.2 σ H G env st Q er po⟩
theorem uni_t {B : Bq → Cx} {a : List Expr} {φ : DEnv → List D → Res Bool} (h : ∀ q, DTs (B q) Z a φ) : ∃ t, (∀ q, PTs (B q) a t) ∧ ∀ σ H G env st Q, ER Z.Y Z.fc Z.Nw G env st σ H → Post (fun _ _ (d b : Bool) => d = b) Z G σ H (φ env st) Q → t σ H Q :=
  ⟨fun σ H Q => ∀ q, (h q).choose σ H Q, fun q => ⟨fun pins s σ H Q I ht => (h q).choose_spec.1.run pins s σ H Q I (ht q)⟩, fun σ H G env st Q er po q => (h q).choose_spec.2 σ H G env st Q er po⟩
theorem uni_g {B : Bq → Cx} {a : Expr} {vs : List Nat} {γ : D → DEnv → Option DEnv} (h : ∀ q, DG (B q) Z a vs γ) :
    ∃ g, (∀ q, PG (B q) a g) ∧ ∀ v d σ H G env st env' (Q : L2.St → Hp → Prop), ER Z.Y Z.fc Z.Nw G env st σ H → Rp Z.Y G d v → γ d env = some env' → (∀ σ', ER Z.Y Z.fc Z.Nw G env' st σ' H → wipe σ' vs = wipe σ vs → Q σ' H) → g v σ H Q :=
  ⟨fun v σ H Q => ∀ q, (h q).choose v σ H Q, fun q => ⟨fun pins s σ H v u Q I r ht => (h q).choose_spec.1.run pins s σ H v u Q I r (ht q)⟩, fun v d σ H G env st env' Q er r e k q => (h q).choose_spec.2 v d σ H G env st env' Q er r e k⟩
theorem wipe_get {σ : L2.St} {j : Nat} : ∀ vs : List Nat, (L2.wipe σ vs)[j]? = if j ∈ vs then (σ[j]?).map (fun _ => none) else σ[j]?
  | [] => by simp [L2.wipe]
  | v :: vs => by
    unfold L2.wipe
    have ih := wipe_get (σ := σ) (j := j) vs
    by_cases e : v = j
    · subst e
      rw [if_pos List.mem_cons_self]
      by_cases hv : v < σ.length
      · rw [List.getElem?_set_self (by rw [wipe_length]; exact hv), List.getElem?_eq_getElem hv]; rfl
      · rw [List.getElem?_eq_none (by rw [List.length_set, wipe_length]; omega), List.getElem?_eq_none (by omega)]; rfl
    · rw [List.getElem?_set_ne e, ih]
      by_cases h : j ∈ vs
      · rw [if_pos h, if_pos (List.mem_cons_of_mem _ h)]
      · rw [if_neg h, if_neg]
        intro z
        rcases List.mem_cons.mp z with z | z
        · exact e z.symm
        · exact h z
theorem wipe_wipe {σ : L2.St} {vs : List Nat} : L2.wipe (L2.wipe σ vs) vs = L2.wipe σ vs := by
  apply List.ext_getElem?
  intro j
  rw [wipe_get, wipe_get]
  by_cases h : j ∈ vs
  · rw [if_pos h, if_pos h]
    cases σ[j]? <;> rfl
  · rw [if_neg h, if_neg h]
theorem Ext.noneG {M : Addr → Prop} {G H G' H' : Hp} (e : Ext M G H G' H') {a : Addr} {o : HO} (h1 : G a = none) (h2 : H a = some o) : G' a = none := by
  cases q : G' a with
  | none => rfl
  | some u =>
    rcases e.n a u q with z | z
    · rw [h1] at z; cases z
    · rw [h2] at z; cases z
/-- a thing that is new since the start is written -/
theorem Ext.write {M : Addr → Prop} {G H G' H' : Hp} (e : Ext M G H G' H') {a : Addr} {o : HO} (h1 : H a = none) (h2 : G' a = none) : Ext M G H G' (upd H' a o) where
  g := e.g
  f := fun b u h => by rw [upd_ne (fun z => by rw [z, h2] at h; cases h)]; exact e.f b u h
  h := fun b u h n => by rw [upd_ne (fun z => by rw [z, h1] at h; cases h)]; exact e.h b u h n
  n := e.n
/-- a new thing is frozen -/
theorem Ext.freeze {M : Addr → Prop} {G H G' H' : Hp} (e : Ext M G H G' H') {a : Addr} {o : HO} (h1 : H a = none) (h2 : G' a = none) (h3 : H' a = some o) : Ext M G H (upd G' a o) H' where
  g := fun b u h => by
    have h := e.g b u h
    rw [upd_ne (fun z => by rw [z, h2] at h; cases h)]
    exact h
  f := fun b u h => by
    by_cases z : b = a
    · subst z; rw [upd_same] at h; cases h; exact h3
    · rw [upd_ne z] at h; exact e.f b u h
  h := e.h
  n := fun b u h => by
    by_cases z : b = a
    · exact .inr (z ▸ h1)
    · rw [upd_ne z] at h; exact e.n b u h
theorem RowR.write {Y : Lay} {G H : Hp} {st : List D} (r : RowR Y G st H) {a : Addr} {o : HO} (n : ¬ Y.M a) (nc : ∀ c q, H a ≠ some (LamX.CodeO c q)) : RowR Y G st (upd H a o) := by
  obtain ⟨vs, h1, h2, h3, h4, h5⟩ := r
  exact ⟨vs, by rw [upd_ne (fun z => n (.inl z.symm))]; exact h1, h2, h3, fun p hp => tabS_keep (h4 p hp) (upd_ne fun z => n (.inr ⟨p.2, by rw [← z]; exact hp⟩)) fun c hc => upd_ne fun z => nc c p.2 (by rw [← z]; exact hc), h5⟩
theorem RowR.writeN {Y : Lay} {G H : Hp} {st : List D} (r : RowR Y G st H) {a : Addr} {o : HO} (h : H a = none) : RowR Y G st (upd H a o) := r.write (r.newM h) fun c q z => by rw [h] at z; cases z
theorem RowR.writeL {Y : Lay} {G H : Hp} {st : List D} (r : RowR Y G st H) {a : Addr} {o : HO} {vs : List V} (n : ¬ Y.M a) (h : H a = some (.lst vs)) : RowR Y G st (upd H a o) := r.write n fun c q z => by rw [h] at z; exact codeO_lst (Option.some.inj z).symm
theorem RowR.freeze {Y : Lay} {G H : Hp} {st : List D} (r : RowR Y G st H) {a : Addr} {o : HO} (n : ¬ Y.M a) (hg : G a = none) : RowR Y (upd G a o) st H := by
  obtain ⟨vs, h1, h2, h3, h4, h5⟩ := r
  exact ⟨vs, h1, by rw [upd_ne (fun z => n (.inl z.symm))]; exact h2, RpL.mono (fun b u h => by rw [upd_ne (ne_of_none h hg)]; exact h) h3, h4, fun p hp => by rw [upd_ne (fun z => n (.inr ⟨p.2, by rw [← z]; exact hp⟩))]; exact h5 p hp⟩
/-- a new list, not yet frozen -/
abbrev rNew (Y : Lay) (H0 : Hp) : Hp → Hp → List D → V → Prop := fun G' H' ds v => ∃ a vs, v = .ref a ∧ H0 a = none ∧ ¬ Y.M a ∧ H' a = some (.lst vs) ∧ G' a = none ∧ RpL Y G' ds vs
/-- the reading of a comprehension by what it computes -/
theorem lc_read2 {own : List (Str × Nat)} {wi : TI} {g : TG} {tt : TT} {te : TE} {it : DEnv → List D → Res (List D)} {γ : D → DEnv → Option DEnv} {c : DEnv → List D → Res Bool} {φ : DEnv → List D → Res D}
    (rg : ∀ v d σ H G env st env' (Q : L2.St → Hp → Prop), ER Z.Y Z.fc Z.Nw G env st σ H → Rp Z.Y G d v → γ d env = some env' → (∀ σ', ER Z.Y Z.fc Z.Nw G env' st σ' H → wipe σ' (own.map (·.2)) = wipe σ (own.map (·.2)) → Q σ' H) → g v σ H Q)
    (rt : ∀ σ H G env st Q, ER Z.Y Z.fc Z.Nw G env st σ H → Post (fun _ _ (d b : Bool) => d = b) Z.quiet G σ H (c env st) Q → tt σ H Q)
    (re : ∀ σ H G env st Q, ER Z.Y Z.fc Z.Nw G env st σ H → Post (rV Z.Y) Z.quiet G σ H (φ env st) Q → te σ H Q)
    {σ : L2.St} {H Hx G : Hp} {env : DEnv} {st : List D} {Q : VK} (hw : ∀ (R : It → Hp → Prop), Post (fun G _ ds J => ItD Z.Y G ds J) Z G σ H (it env st) R → wi σ Hx R) (er : ER Z.Y Z.fc Z.Nw G env st σ H)
    (po : Post (rNew Z.Y H) Z G σ H (lcA (own.map (·.2)) it γ c φ env st) Q) : tLc wi g tt te (own.map (·.2)) σ Hx Q := by
  generalize own.map (·.2) = vs at po rg ⊢
  refine hw _ (Post.bind po fun ds st1 J G1 H1 _ x1 row1 hJ po1 => ?_)
  have hJ : ItD Z.Y G1 ds J := hJ
  have er1 := (er.ext x1 row1).wipe vs
  intro Dp hDp
  have nρ : ¬ Z.Y.M Dp := row1.newM hDp
  have hD0 : H Dp = none := by
    cases q : H Dp with
    | none => rfl
    | some o => rw [x1.h _ _ q nρ] at hDp; cases hDp
  have gD1 : G1 Dp = none := by
    cases q : G1 Dp with
    | none => rfl
    | some o => rw [x1.f _ _ q] at hDp; cases hDp
  refine ⟨fun i m H2 => i + m = ds.length ∧ ∃ st2 acc accV G2, Ext Z.Y.M G1 H1 G2 H2 ∧ RowR Z.Y G2 st2 H2 ∧ H2 Dp = some (.lst accV) ∧ G2 Dp = none ∧ RpL Z.Y G2 acc accV ∧ Post (rNew Z.Y H) Z G1 σ H1 (lcL γ c φ (wipeE env vs) (ds.drop i) st2 acc) Q,
    ⟨ds.length, by omega, st1, [], [], G1, (Ext.refl x1.f).write hDp gD1, row1.writeN hDp, upd_same, gD1, RpL.nil, po1⟩, ?_⟩
  rintro i m H2 ⟨him, st2, acc, accV, G2, x2, row2, hD2, gD2, racc, po2⟩
  obtain ⟨j1, j2⟩ := hJ i G2 H2 x2.g x2.f row2.there
  cases hd : ds[i]? with
  | none =>
    have hle : ds.length ≤ i := List.getElem?_eq_none_iff.mp hd
    rw [List.drop_of_length_le hle] at po2
    exact .inl ⟨j2 (by omega), po2 (.ref Dp) G2 H2 x2 row2 ⟨Dp, accV, rfl, hD0, nρ, hD2, gD2, racc⟩⟩
  | some d =>
    obtain ⟨g1, g2⟩ := j1 d hd
    have hlt : i < ds.length := (List.getElem?_eq_some_iff.mp hd).1
    have hdrop : ds.drop i = d :: ds.drop (i + 1) := by
      rw [List.drop_eq_getElem_cons hlt]
      rw [List.getElem?_eq_getElem hlt] at hd
      cases hd; rfl
    rw [hdrop] at po2
    refine .inr ⟨g1, fun H2 => ∃ st2 acc accV G2, Ext Z.Y.M G1 H1 G2 H2 ∧ RowR Z.Y G2 st2 H2 ∧ H2 Dp = some (.lst accV) ∧ G2 Dp = none ∧ RpL Z.Y G2 acc accV ∧ Post (rNew Z.Y H) Z G1 σ H1 (lcL γ c φ (wipeE env vs) (ds.drop (i + 1)) st2 acc) Q, fun H' hN => ⟨m - 1, by omega, by omega, hN⟩, fun x H' hy => ?_⟩
    obtain ⟨G3, ext, hρ, rx⟩ := g2 x H' hy
    have er3 := (er1.ext x2 row2).ext ext (row2.mono ext hρ)
    have x3 := x2.trans ext row2.there
    unfold lcL at po2
    cases hγ : γ d (wipeE env vs) with
    | none => rw [hγ] at po2; exact po2.elim
    | some env1 =>
      simp only [hγ] at po2
      refine rg x d _ H' G3 _ st2 env1 _ er3 rx hγ fun σ3 er4 w4 => ⟨w4.trans wipe_wipe, ?_⟩
      refine rt σ3 H' G3 env1 st2 _ er4 ?_
      cases hc : c env1 st2 with
      | bad => rw [hc] at po2; exact po2
      | exc e1 e2 e3 => rw [hc] at po2; exact (show False from po2).elim
      | ok b st3 =>
        rw [hc] at po2
        intro b' G4 H4 e4 row4 hb
        subst hb
        have er5 := er4.ext e4 row4
        have x4 := x3.trans e4 er4.row.there
        cases b with
        | false =>
          rw [if_neg Bool.false_ne_true]
          have hD4 := e4.h _ _ (ext.h _ _ hD2 nρ) nρ
          have gD4 := e4.noneG (ext.noneG gD2 hD2) (ext.h _ _ hD2 nρ)
          exact ⟨st3, acc, accV, G4, x4, row4, hD4, gD4, RpL.mono e4.g (RpL.mono ext.g racc), po2⟩
        | true =>
          rw [if_pos rfl]
          refine re σ3 H4 G4 env1 st3 _ er5 ?_
          have po3 : Post (rNew Z.Y H) Z G1 σ H1 ((noX (φ env1 st3)).bind fun y st2 => if acc.length < SZ then lcL γ c φ (wipeE env vs) (ds.drop (i + 1)) st2 (acc ++ [y]) else .bad) Q := po2
          cases hφ : φ env1 st3 with
          | bad => rw [hφ] at po3; exact po3
          | exc e1 e2 e3 => rw [hφ] at po3; exact (show False from po3).elim
          | ok y st5 =>
            rw [hφ] at po3
            have po3 : Post (rNew Z.Y H) Z G1 σ H1 (if acc.length < SZ then lcL γ c φ (wipeE env vs) (ds.drop (i + 1)) st5 (acc ++ [y]) else .bad) Q := po3
            by_cases hl : acc.length < SZ
            · rw [if_pos hl] at po3
              intro v G5 H5 e5 row5 rv
              have hD4 := e4.h _ _ (ext.h _ _ hD2 nρ) nρ
              have gD4 := e4.noneG (ext.noneG gD2 hD2) (ext.h _ _ hD2 nρ)
              have hD5 := e5.h _ _ hD4 nρ
              have gD5 := e5.noneG gD4 hD4
              have x5 := x4.trans e5 row4.there
              exact ⟨accV, hD5, by rw [← racc.length, sz_line]; exact hl, st5, acc ++ [y], accV ++ [v], G5, x5.write hDp gD5, row5.writeL nρ hD5, upd_same, gD5,
                (RpL.mono e5.g (RpL.mono e4.g (RpL.mono ext.g racc))).append (RpL.cons rv RpL.nil), po3⟩
            · rw [if_neg hl] at po3
              exact po3.elim
theorem lc_read {own : List (Str × Nat)} {wi : TI} {g : TG} {tt : TT} {te : TE} {it : DEnv → List D → Res (List D)} {γ : D → DEnv → Option DEnv} {c : DEnv → List D → Res Bool} {φ : DEnv → List D → Res D}
    (rd : ∀ σ H G env st (R : It → Hp → Prop), ER Z.Y Z.fc Z.Nw G env st σ H → Post (fun G _ ds J => ItD Z.Y G ds J) Z G σ H (it env st) R → wi σ H R)
    (rg : ∀ v d σ H G env st env' (Q : L2.St → Hp → Prop), ER Z.Y Z.fc Z.Nw G env st σ H → Rp Z.Y G d v → γ d env = some env' → (∀ σ', ER Z.Y Z.fc Z.Nw G env' st σ' H → wipe σ' (own.map (·.2)) = wipe σ (own.map (·.2)) → Q σ' H) → g v σ H Q)
    (rt : ∀ σ H G env st Q, ER Z.Y Z.fc Z.Nw G env st σ H → Post (fun _ _ (d b : Bool) => d = b) Z.quiet G σ H (c env st) Q → tt σ H Q)
    (re : ∀ σ H G env st Q, ER Z.Y Z.fc Z.Nw G env st σ H → Post (rV Z.Y) Z.quiet G σ H (φ env st) Q → te σ H Q)
    {σ : L2.St} {H G : Hp} {env : DEnv} {st : List D} {Q : VK} (er : ER Z.Y Z.fc Z.Nw G env st σ H)
    (po : Post (rNew Z.Y H) Z G σ H (lcA (own.map (·.2)) it γ c φ env st) Q) : tLc wi g tt te (own.map (·.2)) σ H Q := lc_read2 rg rt re (fun R p => rd σ H G env st R er p) er po
/-- frozen at once -/
theorem post_frz {G H : Hp} {σ : L2.St} {r : Res (List D)} {Q : VK} (h : Post (rV Z.Y) Z G σ H (r.bind fun ds st1 => .ok (.lst ds) st1) Q) : Post (rNew Z.Y H) Z G σ H r Q := by
  cases r with
  | ok ds st =>
    rintro v G' H' x row ⟨a, vs, rfl, h0, nρ, h1, h2, h3⟩
    exact h (.ref a) (upd G' a (.lst vs)) H' (x.freeze h0 h2 h1) (row.freeze nρ h2) (rp_lst upd_same (RpL.mono (fun b u h => by rw [upd_ne (ne_of_none h h2)]; exact h) h3))
  | exc c fs st => exact h
  | bad => exact h
section
variable {elt tg iter : Expr} {ifs : List Expr} {scope : Scope} {own : List (Str × Nat)} {pos spos : Pos} {it : DEnv → List D → Res (List D)} {γ : D → DEnv → Option DEnv} {c : DEnv → List D → Res Bool} {φ : DEnv → List D → Res D}
theorem de_lc (o : Okc X Z k) (hi : DI X Z tg iter it) (ok : BlkOk X.N X.env.scope scope own) (hg : ∀ q : Bq, DG (q.cx X scope) Z.quiet tg (own.map (·.2)) γ) (ht : ∀ q : Bq, DTs (q.cx X scope) Z.quiet ifs c) (he : ∀ q : Bq, DE (q.cx X scope) Z.quiet elt φ)
    (hs : ∀ x, foldedSetIterable iter X.env x = pure x) : DE X Z (.ListComp elt [⟨tg, iter, ifs, 0⟩] scope pos) (lcE (own.map (·.2)) it γ c φ) := by
  obtain ⟨wi, pi, ri⟩ := hi
  obtain ⟨g, pg, rg⟩ := uni_g hg
  obtain ⟨tt, pt, rt⟩ := uni_t ht
  obtain ⟨te, pe, re⟩ := uni_e he
  refine ⟨_, pe_lc o.calm o.nd pi ok (fun s H C cl fp => pg ⟨s, H, C, cl, fp⟩) (fun s H C cl fp => pt ⟨s, H, C, cl, fp⟩) (fun s H C cl fp => pe ⟨s, H, C, cl, fp⟩) hs, fun σ H G env st Q er po => ?_⟩
  exact lc_read ri rg rt re er (post_frz po)
/-- name = [..], on one line, a list that is frozen -/
theorem ds_setLc {i : Nat} {y : Str} {py : Pos} (o : Okc X Z k) (hy : X.N[i]? = some y) (hyl : X.env.scope.names.lookup y = some .local) (hsw : swapsWith (.ListComp elt [⟨tg, iter, ifs, 0⟩] scope pos) (some (.Name y py)) spos.line X.env = pure true)
    (hi : DI X Z tg iter it) (ok : BlkOk X.N X.env.scope scope own) (hg : ∀ q : Bq, DG (q.cx X scope) Z.quiet tg (own.map (·.2)) γ) (ht : ∀ q : Bq, DTs (q.cx X scope) Z.quiet ifs c) (he : ∀ q : Bq, DE (q.cx X scope) Z.quiet elt φ)
    (hs : ∀ x, foldedSetIterable iter X.env x = pure x) : DSt X Z (.Assign [.Name y py] (.ListComp elt [⟨tg, iter, ifs, 0⟩] scope pos) spos) (setS i (lcE (own.map (·.2)) it γ c φ)) := by
  obtain ⟨wi, pi, ri⟩ := hi
  obtain ⟨g, pg, rg⟩ := uni_g hg
  obtain ⟨tt, pt, rt⟩ := uni_t ht
  obtain ⟨te, pe, re⟩ := uni_e he
  refine ⟨_, ps_setLc o.calm o.nd hy hyl hsw pi ok (fun s H C cl fp => pg ⟨s, H, C, cl, fp⟩) (fun s H C cl fp => pt ⟨s, H, C, cl, fp⟩) (fun s H C cl fp => pe ⟨s, H, C, cl, fp⟩) hs, fun G0 H0 σ H G env st E er en po => ?_⟩
  refine lc_read ri rg rt re er (post_frz (SPost.post er en po fun d st1 v G1 H1 _ _ er1 en1 rv po1 => ?_))
  exact po1 _ G1 H1 (er1.set_val rv) en1
end
end
end DL

set_option Elab.async false
set_option linter.all false
set_option maxRecDepth 100000
namespace PySem
open Sem (wp)
set_option maxHeartbeats 1000000 in
theorem meets_enumerate_new1 {v : Value} {o : Obj} {H : Heap → Prop} (B : Begins v o H) :
    Meets (Builtin.«enumerate.__new__» ⟨[.type "enumerate", v], []⟩) (fun _ R s => H s.heap ∧
      R (.ok (.ret (.ref (s.heap.push o).objs.size))) { s with heap := (s.heap.push o).push { cls := .type "enumerate", data := .fields #[.none, .bool false, .ref s.heap.objs.size, rawInt 0, .none, .none] } }) :=
  .of_wp fun prog w A R s h => by
    obtain ⟨hp, g, d, tk, os⟩ := s; obtain ⟨h1, h⟩ := h
    have hsub := sub_enumerate
    have q1 : ∀ {A' : Around} {E : Value → Shared → Prop} {Q : Value → Shared → Prop}, Q (.ref hp.objs.size) ⟨hp.push o, g, d, tk, os⟩ → wpAny (model prog w) A' (pyIter v) Q E ⟨hp, g, d, tk, os⟩ :=
      fun q => B.iter prog w _ _ ⟨hp, g, d, tk, os⟩ _ h1 q
    wp_walk using q1
    refine wpAny_stack_any fun st => wpAny_pure ?_
    split
    · rename_i c _ _ _ _ _
      cases (c == Value.type "enumerate")
      · wp_walk using q1
        exact ⟨_, rfl, h⟩
      · wp_walk using q1
        exact ⟨_, rfl, h⟩
    · wp_walk using q1
      exact ⟨_, rfl, h⟩
theorem enum_begins1 {prog : Program} {w : World} {A : Around} {E : Value → Shared → Prop} {s : Shared} {v : Value} {o : Obj} {H : Heap → Prop} {Q : Value → Shared → Prop} (B : Begins v o H) (h1 : H s.heap)
    (h : ∀ h', IsEnum h' (s.heap.objs.size + 1) s.heap.objs.size 0 .none → h'.get? s.heap.objs.size = some o → h'.objs.size = s.heap.objs.size + 2 →
      (∀ b o, s.heap.get? b = some o → h'.get? b = some o) → Q (.ref (s.heap.objs.size + 1)) { s with heap := h' }) :
    wpAny (model prog w) A (call (.type "enumerate") [v]) Q E s := by
  refine callType_new F.called_enumerate (by decide) (F.typeCall_enumerate_1 _) (F.newCall_enumerate_1 _) (fun obj => F.args_object_init_2 obj _) F.entry_enumerate_new
    (meets_enumerate_new1 B) ⟨h1, ?_⟩
  have hz : (s.heap.push o).objs.size = s.heap.objs.size + 1 := Heap.size_push ..
  show _ ∧ _
  rw [hz]
  have he : IsEnum ((s.heap.push o).push { cls := .type "enumerate", data := .fields #[.none, .bool false, .ref s.heap.objs.size, rawInt 0, .none, .none] }) (s.heap.objs.size + 1) s.heap.objs.size 0 .none := by
    have := Heap.get?_push_size (s.heap.push o) (o := { cls := .type "enumerate", data := .fields #[.none, .bool false, .ref s.heap.objs.size, rawInt 0, .none, .none] }) rfl
    rw [hz] at this; exact this
  refine ⟨⟨_, he, rfl⟩, h _ he (Heap.get?_push_of_some _ (Heap.get?_push_size _ B.free)) (by rw [Heap.size_push, hz]) fun b o x => Heap.get?_push_of_some _ (Heap.get?_push_of_some _ x)⟩
end PySem
namespace DL
open PySem PySem.Spec PyProof.Rows L2

theorem vals_inv : ∀ {vs : List V} {us : List Value} {i : Nat} {u : Value}, Vals vs us → us[i]? = some u → ∃ v, vs[i]? = some v ∧ RelV v u
  | _, _, _, _, .nil, h => by simp at h
  | _, _, 0, _, .cons r t, h => by simp at h; subst h; exact ⟨_, rfl, r⟩
  | _, _, i + 1, _, .cons r t, h => by simpa using vals_inv (i := i) t (by simpa using h)
/-! ### a turn by the library's walks -/
theorem turn_walks {P : Program} {w : World} {K : PySem.W.Frag} {elts : List Expr} {kk : Nat} {tpos : Pos} {J : It} {fp wr : List Addr} {e : Addr} {tn : Nat → Heap → Prop} (mem : e ∈ fp) (hwr : ∀ b ∈ wr, b ∈ fp)
    (obj : ∀ i h, tn i h → ∀ b ∈ fp, ∃ o, h.get? b = some o ∧ ∀ v, o.data ≠ .cell v) (keep : ∀ i h h', tn i h → (∀ b ∈ fp, ∀ o, h.get? b = some o → h'.get? b = some o) → tn i h')
    (step : ∀ (X : Cx), X.prog = P → X.w = w → X.K = K → X.calm = true → ∀ (i : Nat) (pins : List (Addr × Obj)) (s : Shared) (σ : L2.St) (H : Hp), Inv X pins σ H s → tn i s.heap → (J.go i H ∨ J.stop i H) →
      ∃ fpx n Pt St Mid, WalksT P w X.A e fpx wr n Pt St Mid ∧ St i s.heap ∧ (∀ h', St (i + 1) h' → tn (i + 1) h') ∧ (J.go i H → i < n) ∧ (J.stop i H → i = n) ∧
        ∀ vals, Pt i vals → ∃ vs, Vals vs vals.toList ∧ vs.length ≤ 8 ∧ ∀ T, H T = none → J.yld i H (.ref T) (upd H T (.tup vs)))
    (self : ∀ (A : Around) (i : Nat) (s : Shared) (Q : Value → Shared → Prop) (E : Value → Shared → Prop), tn i s.heap → Q (.ref e) s → wpAny (model P w) A (pyIter (.ref e)) Q E s) :
    Turn P w K (.Tuple elts kk tpos) J fp e tn where
  mem := mem
  obj := obj
  keep := keep
  item := by
    intro X hP hw hK hc i pins s σ H E I hf st hg
    obtain ⟨fpx, n, Pt, St, Mid, W, hst, hnext, hlt, _, hv⟩ := step X hP hw hK hc i pins s σ H I st (.inl hg)
    refine W.item i s _ E (hlt hg) hst fun T vals h' tk hPt hT hIsT hMid hk => ?_
    refine ⟨.ref T, rfl, W.go elts kk tpos i T _ _ E hMid fun h'' hst' hk' => ?_⟩
    have nT : ∀ b ∈ fp, b ≠ T := fun b hb z => by
      obtain ⟨o, q, _⟩ := obj i _ st b hb
      exact absurd (Nat.lt_of_lt_of_le (Heap.lt_size q) hT) (by rw [z]; exact Nat.lt_irrefl _)
    have hT2 : h''.IsTuple T vals := hIsT.at fun o q => hk' T o (fun z => nT T (hwr T z) rfl) q
    obtain ⟨vs, rv, hl, hy⟩ := hv vals hPt
    have new : ObjOk X.prog X.w (upd H T (.tup vs)) h'' T (.tup vs) := by
      obtain ⟨o, a1, a2, n, a3⟩ := hT2
      exact ⟨by rw [sizeLine_eq]; omega, vals.toList, rv, o, a1, a2, n, by simpa using a3⟩
    have I1 : Inv X pins σ (upd H T (.tup vs)) { s with heap := h'', toks := tk } := I.turnedNew (ch := wr) (fun b o hb q => hk' b o hb (hk b o hb q)) (fun b hb => hf b (hwr b hb)) hT new
    refine ⟨.ref T, _, I1, rfl, hy T (I.hok.fresh hT), hnext h'' hst', fun b hb => ?_⟩
    rw [upd_ne (nT b hb)]
    exact (hf b hb).1
  done := by
    intro X hP hw hK hc i pins s σ H E I hf st hg
    obtain ⟨fpx, n, Pt, St, Mid, W, hst, _, _, hn, _⟩ := step X hP hw hK hc i pins s σ H I st (.inr hg)
    have hi := hn hg
    subst hi
    exact W.done s _ E hst fun h' tk hk => ⟨rfl, I.turnedL (t' := tk) hk fun b hb => hf b (hwr b hb)⟩
  self := self

/-! ### lists and tuples alike -/
def SqK (b : Bool) (K : PySem.W.Frag) (H : Hp) (a : Addr) (xs : List V) : Prop := match b with
  | true => SqL K H a xs
  | false => SqT K H a xs
def IterK (b : Bool) (h : Heap) (it a : Addr) (i : Nat) : Prop := match b with
  | true => h.IsListIter it a i
  | false => h.IsTupleIter it a i
def IsK (b : Bool) (h : Heap) (a : Addr) (items : Array Value) : Prop := match b with
  | true => h.IsList a items
  | false => h.IsTuple a items
def oK (b : Bool) (a : Addr) : Obj := match b with
  | true => { cls := .type "list_iterator", data := .fields #[.ref a, .int 0 0] }
  | false => { cls := .type "tuple_iterator", data := .fields #[.ref a, .int 0 0] }
theorem beginsK (b : Bool) (a : Addr) (items : Array Value) : Begins (.ref a) (oK b a) fun h => IsK b h a items := match b with
  | true => begins_list a items
  | false => begins_tuple a items
theorem drawsK (b : Bool) {prog : Program} {w : World} {A : Around} (hh : A.handled = none) (it a : Addr) (hne : a ≠ it) (items : Array Value) :
    Draws prog w A it [it, a] items.size (fun i v => items[i]? = some v) (fun i h => IterK b h it a i ∧ IsK b h a items) := match b with
  | true => Draws.list hh it a hne items
  | false => Draws.tuple hh it a hne items
theorem iterK0 (b : Bool) {h : Heap} {it a : Addr} (e : h.get? it = some (oK b a)) : IterK b h it a 0 := match b with
  | true => ⟨_, e, rfl, rfl⟩
  | false => ⟨_, e, rfl, rfl⟩
theorem iterK_at (b : Bool) {h h' : Heap} {it a : Addr} {i : Nat} (st : IterK b h it a i) (k : ∀ o, h.get? it = some o → h'.get? it = some o) : IterK b h' it a i := match b with
  | true => Heap.IsListIter.at st k
  | false => Heap.IsTupleIter.at st k
theorem iterK_obj (b : Bool) {h : Heap} {it a : Addr} {i : Nat} (st : IterK b h it a i) : ∃ o, h.get? it = some o ∧ ∀ v, o.data ≠ .cell v := match b with
  | true => let ⟨o, e, _, d⟩ := st; ⟨o, e, fun v q => by rw [d] at q; cases q⟩
  | false => let ⟨o, e, _, d⟩ := st; ⟨o, e, fun v q => by rw [d] at q; cases q⟩
theorem isK_lt (b : Bool) {h : Heap} {a : Addr} {items : Array Value} (p : IsK b h a items) : a < h.objs.size := match b with
  | true => let ⟨_, e, _⟩ := p; Heap.lt_size e
  | false => let ⟨_, e, _⟩ := p; Heap.lt_size e
section
variable {X : Cx} {pins : List (Addr × Obj)} {σ : L2.St} {H : Hp} {s : Shared}
theorem inv_seqK (b : Bool) {a : Addr} {xs : List V} (I : Inv X pins σ H s) (h : SqK b X.K H a xs) : ∃ its : List Value, Vals xs its ∧ IsK b s.heap a its.toArray := match b with
  | true => let ⟨its, rv, p, _⟩ := I.list h; ⟨its, rv, p.isList⟩
  | false => let ⟨its, rv, p, _⟩ := I.tuple h; ⟨its, rv, p⟩
end
/-- the items of a list or tuple that stays -/
def ItS (b : Bool) (K : PySem.W.Frag) (a : Addr) (xs : List V) : It := ⟨fun i H => SqK b K H a xs ∧ i < xs.length, fun i H x H' => H' = H ∧ xs[i]? = some x, fun i H => SqK b K H a xs ∧ i = xs.length⟩
theorem turnS (b : Bool) {P : Program} {w : World} {K : PySem.W.Frag} {tg : Expr} (a it : Addr) (xs : List V) : Turn P w K tg (ItS b K a xs) [it] it (fun i h => IterK b h it a i) where
  mem := by simp
  obj := fun i h st c hc => by
    have e : c = it := by simpa using hc
    subst e
    exact iterK_obj b st
  keep := fun i h h' st k => iterK_at b st fun o e => k it (by simp) o e
  item := by
    intro X hP hw hK hc i pins s σ H E I hf st hg
    obtain ⟨hs, hi⟩ := hg
    have hx : xs[i]? = some xs[i] := List.getElem?_eq_getElem hi
    cases b with
    | true =>
      have g0 : (Itl K a).go i H := ⟨xs, _, hs, hx⟩
      refine thn ((turn_list (tg := tg) a it).item X hP hw hK hc i pins s σ H E I hf st g0) fun r s1 ⟨u, e, h⟩ => ⟨u, e, thn h fun _ s2 ⟨x, H', I1, r1, y, t1, n1⟩ => ⟨x, H', I1, r1, ⟨y.1, y.2 xs hs⟩, t1, n1⟩⟩
    | false =>
      have g0 : (Itt K a).go i H := ⟨xs, _, hs, hx⟩
      refine thn ((turn_tuple (tg := tg) a it).item X hP hw hK hc i pins s σ H E I hf st g0) fun r s1 ⟨u, e, h⟩ => ⟨u, e, thn h fun _ s2 ⟨x, H', I1, r1, y, t1, n1⟩ => ⟨x, H', I1, r1, ⟨y.1, y.2 xs hs⟩, t1, n1⟩⟩
  done := by
    intro X hP hw hK hc i pins s σ H E I hf st hg
    obtain ⟨hs, hi⟩ := hg
    cases b with
    | true => exact (turn_list (tg := tg) a it).done X hP hw hK hc i pins s σ H E I hf st ⟨xs, hs, Nat.le_of_eq hi.symm⟩
    | false => exact (turn_tuple (tg := tg) a it).done X hP hw hK hc i pins s σ H E I hf st ⟨xs, hs, Nat.le_of_eq hi.symm⟩
  self := fun A i s Q E st h => match b with
    | true => (turn_list (P := P) (w := w) (K := K) (tg := tg) a it).self A i s Q E st h
    | false => (turn_tuple (P := P) (w := w) (K := K) (tg := tg) a it).self A i s Q E st h
def iSeq (K : PySem.W.Frag) (tl : TE) : TI := fun σ H R => tl σ H fun x H1 => ∃ b a xs, x = .ref a ∧ SqK b K H1 a xs ∧ R (ItS b K a xs) H1
section
variable {X : Cx} {Z : Ct} {k : Nat} {tg e e2 e3 : Expr} {φ ψ χ : DEnv → List D → Res D} {p pos tpos : Pos}
theorem pi_seq {tl : TE} (hl : PE X e tl) : PI X tg e (iSeq X.K tl) := by
  refine ⟨fun pins s σ H R I h => ?_⟩
  refine thn (hl.run pins s σ H _ I h) fun v s1 ⟨x, H1, I1, r1, q1⟩ => ?_
  obtain ⟨b, a, xs, ex, hq, q⟩ := q1
  subst ex
  cases r1
  obtain ⟨its, rv, pk⟩ := inv_seqK b I1 hq
  refine (beginsK b a its.toArray).iter _ _ _ _ s1 _ pk ?_
  refine ⟨s1.heap.objs.size, [s1.heap.objs.size], _, _, H1, rfl, I1.kept (t' := s1.toks) fun b o e => Heap.get?_push_of_some _ e, turnS b a s1.heap.objs.size xs, iterK0 b (Heap.get?_push_size _ (beginsK b a its.toArray).free), fun c hc => ?_, q⟩
  have e : c = s1.heap.objs.size := by simpa using hc
  subst e
  exact I1.fpOk (Nat.le_refl _) (I1.hok.fresh (Nat.le_refl _))
/-- what a frozen sequence is -/
def sqF : D → Option (List D)
  | .tup ds => some ds
  | .lst ds => some ds
  | .scr ds => some ds
  | _ => none
theorem sqF_rp {Y : Lay} {G : Hp} {d : D} {v : V} {ds : List D} (h : Rp Y G d v) (e : sqF d = some ds) : ∃ b a vs, v = .ref a ∧ SqK b Y.K G a vs ∧ RpL Y G ds vs := by
  unfold sqF at e
  split at e
  · cases e
    obtain ⟨a, vs, rfl, h1, h2⟩ := tup_inv h
    exact ⟨false, a, vs, rfl, h1, h2⟩
  · cases e
    obtain ⟨a, vs, rfl, h1, h2⟩ := lst_inv h
    exact ⟨true, a, vs, rfl, SqL.of h1, h2⟩
  · cases e
    obtain ⟨a, vs, rfl, h1, h2⟩ := scr_inv h
    exact ⟨true, a, vs, rfl, h1, h2⟩
  · cases e
theorem sqK_mono {b : Bool} {K : PySem.W.Frag} {G G' : Hp} {a : Addr} {xs : List V} (e : Le G G') (h : SqK b K G a xs) : SqK b K G' a xs := match b with
  | true => SqL.mono e h
  | false => SqT.mono e h
def seqI (φ : DEnv → List D → Res D) (env : DEnv) (st : List D) : Res (List D) := (φ env st).bind fun d st1 => match sqF d with
  | some ds => .ok ds st1
  | none => .bad
theorem itD_S {Y : Lay} {G1 : Hp} {b : Bool} {a : Addr} {vs : List V} {ds : List D} (h : SqK b Y.K G1 a vs) (r : RpL Y G1 ds vs) : ItD Y G1 ds (ItS b Y.K a vs) := fun i G H le f row => by
  have hs : SqK b Y.K H a vs := sqK_mono f (sqK_mono le h)
  have hl := r.length
  refine ⟨fun d hd => ⟨⟨hs, ?_⟩, fun x H' hy => ?_⟩, fun hi => ⟨hs, by omega⟩⟩
  · have := (List.getElem?_eq_some_iff.mp hd).1
    omega
  · obtain ⟨rfl, hx⟩ := hy
    obtain ⟨v, hv, rv⟩ := r.get hd
    rw [hx] at hv
    cases hv
    exact ⟨G, Ext.refl f, fun _ _ => rfl, Rp.mono le rv⟩
theorem di_seq (hK : Z.Y.K = X.K) (h : DE X Z e φ) : DI X Z tg e (seqI φ) := by
  obtain ⟨t, q, rd⟩ := h
  refine ⟨_, pi_seq q, fun σ H G env st R er po => rd σ H G env st _ er (Post.bind po fun d st1 v G1 H1 e x row rv po1 => ?_)⟩
  cases hs : sqF d with
  | none => simp only [hs] at po1; exact po1.elim
  | some ds =>
    simp only [hs] at po1
    obtain ⟨b, a, vs, rfl, h1, h2⟩ := sqF_rp rv hs
    refine ⟨b, a, vs, rfl, by rw [← hK]; exact sqK_mono x.f h1, ?_⟩
    rw [← hK]
    exact Post.here (R := fun G _ ds J => ItD Z.Y G ds J) po1 x.f row (itD_S h1 h2)
/-! ### range -/
abbrev rngL (lo : Int) (n : Nat) : List D := (List.range n).map fun i : Nat => D.int (lo + (i : Int))
theorem itD_R {Y : Lay} {G1 : Hp} {lo : Int} {n : Nat} : ItD Y G1 (rngL lo n) (Itr lo n) := fun i G H le f row => by
  refine ⟨fun d hd => ?_, fun hi => ?_⟩
  · have hlt : i < n := by
      have := (List.getElem?_eq_some_iff.mp hd).1
      simpa using this
    refine ⟨hlt, fun x H' hy => ?_⟩
    obtain ⟨rfl, rfl⟩ := hy
    rw [List.getElem?_map, List.getElem?_range hlt] at hd
    cases hd
    exact ⟨G, Ext.refl f, fun _ _ => rfl, rp_int _⟩
  · have : i = n := by simpa using hi
    exact Nat.le_of_eq this.symm
def rngI1 (φ : DEnv → List D → Res D) (env : DEnv) (st : List D) : Res (List D) := (φ env st).bind fun d st1 => match d with
  | .int j => if -1000000 ≤ j ∧ j < 1000000 then .ok (rngL 0 j.toNat) st1 else .bad
  | _ => .bad
theorem di_range1 {x : Str} (hx : x = "range") (hg : Gl X x) (hm : X.mg x = none) (h : DE X Z e φ) (hs : starEach [e] X.env = [(false, eval e X.env)]) : DI X Z tg (.Call (.Name x p) [e] [] pos) (rngI1 φ) := by
  subst hx
  obtain ⟨t, q, rd⟩ := h
  refine ⟨_, pi_range1 hg hm (pa_cons q pa_nil hs) hs, fun σ H G env st R er po => rd σ H G env st _ er (Post.bind po fun d st1 v G1 H1 e x row rv po1 => ?_)⟩
  cases d with
  | int j =>
    dsimp only at po1
    split at po1
    · rename_i hj
      refine ⟨j, by rw [int_inv rv], by omega, by omega, ?_⟩
      exact Post.here (R := fun G _ ds J => ItD Z.Y G ds J) po1 x.f row itD_R
    · exact po1.elim
  | _ => exact po1.elim
def rngI2 (φ ψ : DEnv → List D → Res D) (env : DEnv) (st : List D) : Res (List D) := (φ env st).bind fun d st1 => (ψ env st1).bind fun d2 st2 => match d, d2 with
  | .int i, .int j => if -1000000 ≤ i ∧ i < 1000000 ∧ -1000000 ≤ j ∧ j < 1000000 then .ok (rngL i (j - i).toNat) st2 else .bad
  | _, _ => .bad
theorem di_range2 {x : Str} (hx : x = "range") (hg : Gl X x) (hm : X.mg x = none) (h : DE X Z e φ) (h2 : DE X Z e2 ψ) (hs : starEach [e, e2] X.env = [(false, eval e X.env), (false, eval e2 X.env)]) (hs2 : starEach [e2] X.env = [(false, eval e2 X.env)]) :
    DI X Z tg (.Call (.Name x p) [e, e2] [] pos) (rngI2 φ ψ) := by
  subst hx
  obtain ⟨t, q, rd⟩ := h
  obtain ⟨t2, q2, rd2⟩ := h2
  refine ⟨_, pi_range2 hg hm (pa_cons q (pa_cons q2 pa_nil hs2) (by rw [hs, hs2])) hs hs2, fun σ H G env st R er po => ?_⟩
  refine rd σ H G env st _ er (Post.bind po fun d st1 v G1 H1 e x row rv po1 => ?_)
  refine rd2 σ H1 G1 env st1 _ (er.ext x row) (Post.bind po1 fun d2 st2 v2 G2 H2 e2 x2 row2 rv2 po2 => ?_)
  cases d with
  | int i =>
    cases d2 with
    | int j =>
      dsimp only at po2
      split at po2
      · rename_i hj
        refine ⟨i, j, by rw [int_inv rv, int_inv rv2], by omega, ?_⟩
        exact Post.here (R := fun G _ ds J => ItD Z.Y G ds J) po2 x2.f row2 itD_R
      · exact po2.elim
    | _ => exact po2.elim
  | _ => cases d2 <;> exact po2.elim
/-! ### enumerate -/
def ItE (b : Bool) (K : PySem.W.Frag) (a : Addr) (xs : List V) : It := ⟨fun i H => SqK b K H a xs ∧ i < xs.length, fun i H v H' => ∃ T x, v = .ref T ∧ H T = none ∧ H' = upd H T (.tup [.int (i : Nat), x]) ∧ xs[i]? = some x, fun i H => SqK b K H a xs ∧ i = xs.length⟩
theorem turnE (b : Bool) {P : Program} {w : World} {K : PySem.W.Frag} {elts : List Expr} {kk : Nat} {tpos : Pos} (a e it : Addr) (xs : List V) (hne : e ≠ it) (hea : e ≠ a) (hai : a ≠ it) :
    Turn P w K (.Tuple elts kk tpos) (ItE b K a xs) [e, it] e (fun i h => (∃ old, IsEnum h e it ((0 : Int) + (i : Nat)) old) ∧ IterK b h it a i) := by
  refine turn_walks (wr := [e, it]) (by simp) (fun _ h => h) (fun i h st c hc => ?_) (fun i h h' st k => ?_) (fun X hP hw hK hc i pins s σ H I st hg => ?_) fun A i s Q E st h => ?_
  · obtain ⟨⟨old, he⟩, hi⟩ := st
    have e' : c = e ∨ c = it := by simpa using hc
    rcases e' with z | z
    · rw [z]; exact ⟨_, he, fun v q => nomatch q⟩
    · rw [z]; exact iterK_obj b hi
  · obtain ⟨⟨old, he⟩, hi⟩ := st
    exact ⟨⟨old, k e (by simp) _ he⟩, iterK_at b hi fun o q => k it (by simp) o q⟩
  · subst hP hw hK
    have hs : SqK b X.K H a xs := by
      rcases hg with h | h
      · exact h.1
      · exact h.1
    obtain ⟨its, rv, pk⟩ := inv_seqK b I hs
    have hl := rv.length
    refine ⟨_, _, _, _, _, WalksT.enumFrom 0 (drawsK (A := X.A.in1) b (I.ok.hd hc) it a hai its.toArray) e hne (by simp [hne, hea]) (by simp), ⟨st.1, st.2, pk⟩, fun h' st' => ⟨st'.1, st'.2.1⟩, fun hg => ?_, fun hg => ?_, fun vals hP => ?_⟩
    · have := hg.2
      simp; omega
    · have := hg.2
      simp; omega
    · obtain ⟨t, x, hx, rfl⟩ := hP
      have hx : its[i]? = some x := by simpa using hx
      obtain ⟨v, hv, r⟩ := vals_inv rv hx
      exact ⟨[.int (i : Nat), v], .cons ⟨t, by simp⟩ (.cons r .nil), by simp, fun T hT => ⟨T, v, rfl, hT, rfl, hv⟩⟩
  · obtain ⟨⟨old, he⟩, _⟩ := st
    exact wpAny_pyIter_enum he h
def iEnumK (K : PySem.W.Frag) (ta : TA) : TI := fun σ H R => ta σ H fun vs H1 => ∃ b a xs, vs = [.ref a] ∧ SqK b K H1 a xs ∧ R (ItE b K a xs) H1
theorem pi_enumK {ta : TA} {elts : List Expr} {kk : Nat} (hg : Gl X "enumerate") (hm : X.mg "enumerate" = none) (ha : PA X [e] ta) (hs : starEach [e] X.env = [(false, eval e X.env)]) :
    PI X (.Tuple elts kk tpos) (.Call (.Name "enumerate" p) [e] [] pos) (iEnumK X.K ta) := by
  refine ⟨fun pins s σ H R I h => ?_⟩
  refine Call_ (ld_blt I hg hm boot_enumerate (PyProof.Rows.callWith_type1 (thn (ha.run pos pins s σ H _ I h) fun us s1 ⟨vs, H1, I1, r1, q1⟩ => ?_) hs rfl))
  obtain ⟨b, a, xs, ex, hq, q⟩ := q1
  subst ex
  cases r1 with
  | cons r rr =>
    cases rr
    cases r
    obtain ⟨its, rv, pk⟩ := inv_seqK b I1 hq
    refine enum_begins1 (beginsK b a its.toArray) pk fun h' he hit hsz hk => wpAny_pyIter_enum he ?_
    have I2 : Inv X pins σ H1 { s1 with heap := h' } := I1.kept (t' := s1.toks) hk
    have hlt := isK_lt b pk
    refine ⟨s1.heap.objs.size + 1, [s1.heap.objs.size + 1, s1.heap.objs.size], _, _, H1, rfl, I2, turnE b a (s1.heap.objs.size + 1) s1.heap.objs.size xs (Nat.succ_ne_self _) (Nat.ne_of_gt (Nat.lt_succ_of_lt hlt)) (Nat.ne_of_lt hlt), ⟨⟨.none, by simpa using he⟩, iterK0 b hit⟩, fun c hc => ?_, q⟩
    have e' : c = s1.heap.objs.size + 1 ∨ c = s1.heap.objs.size := by simpa using hc
    have hle : s1.heap.objs.size ≤ c := by
      rcases e' with z | z
      · rw [z]; exact Nat.le_add_right _ _
      · rw [z]; exact Nat.le_refl _
    exact I1.fpOk hle (I1.hok.fresh hle)
abbrev enumL (ds : List D) : List D := ds.zipIdx.map fun p => .tup [.int ((p.2 : Nat) : Int), p.1]
/-- a new pair (triple) is yielded -/
theorem yld_new {Y : Lay} {G H : Hp} {T : Addr} {vs : List V} {ds : List D} (f : Le G H) (row : ∀ a, Y.M a → ∃ o, H a = some o) (hT : H T = none) (r : RpL Y G ds vs) : ∃ G', Ext Y.M G H G' (upd H T (.tup vs)) ∧ (∀ a, Y.M a → (upd H T (.tup vs)) a = H a) ∧ Rp Y G' (.tup ds) (.ref T) := by
  have e : Ext Y.M G H (upd G T (.tup vs)) (upd H T (.tup vs)) := Ext.new f hT
  refine ⟨_, e, fun a ha => ?_, rp_tup (SqT.of upd_same) (RpL.mono e.g r)⟩
  obtain ⟨o, ho⟩ := row a ha
  exact upd_ne (ne_of_none ho hT)
theorem itD_E {Y : Lay} {G1 : Hp} {b : Bool} {a : Addr} {vs : List V} {ds : List D} (h : SqK b Y.K G1 a vs) (r : RpL Y G1 ds vs) : ItD Y G1 (enumL ds) (ItE b Y.K a vs) := fun i G H le f row => by
  have hs : SqK b Y.K H a vs := sqK_mono f (sqK_mono le h)
  have hl := r.length
  refine ⟨fun d hd => ?_, fun hi => ⟨hs, by rw [← hl]; simpa using hi⟩⟩
  rw [List.getElem?_map, List.getElem?_zipIdx] at hd
  cases hx : ds[i]? with
  | none => rw [hx] at hd; cases hd
  | some x =>
    rw [hx] at hd
    cases hd
    have := (List.getElem?_eq_some_iff.mp hx).1
    refine ⟨⟨hs, by omega⟩, fun y H' hy => ?_⟩
    obtain ⟨T, y, rfl, hT, rfl, hy⟩ := hy
    obtain ⟨v, hv, rv⟩ := r.get hx
    rw [hy] at hv
    cases hv
    refine yld_new f row hT (RpL.cons ?_ (RpL.cons (Rp.mono le rv) RpL.nil))
    simp only [Nat.zero_add]
    exact rp_int _
def enumI (φ : DEnv → List D → Res D) (env : DEnv) (st : List D) : Res (List D) := (φ env st).bind fun d st1 => match sqF d with
  | some ds => .ok (enumL ds) st1
  | none => .bad
theorem di_enum {x : Str} {elts : List Expr} {kk : Nat} (hx : x = "enumerate") (hK : Z.Y.K = X.K) (hg : Gl X x) (hm : X.mg x = none) (h : DE X Z e φ) (hs : starEach [e] X.env = [(false, eval e X.env)]) :
    DI X Z (.Tuple elts kk tpos) (.Call (.Name x p) [e] [] pos) (enumI φ) := by
  subst hx
  obtain ⟨t, q, rd⟩ := h
  refine ⟨_, pi_enumK hg hm (pa_cons q pa_nil hs) hs, fun σ H G env st R er po => rd σ H G env st _ er (Post.bind po fun d st1 v G1 H1 e x row rv po1 => ?_)⟩
  cases hd : sqF d with
  | none => simp only [hd] at po1; exact po1.elim
  | some ds =>
    simp only [hd] at po1
    obtain ⟨b, a, vs, rfl, h1, h2⟩ := sqF_rp rv hd
    refine ⟨b, a, vs, rfl, by rw [← hK]; exact sqK_mono x.f h1, ?_⟩
    rw [← hK]
    exact Post.here (R := fun G _ ds J => ItD Z.Y G ds J) po1 x.f row (itD_E h1 h2)
/-! ### zip -/
def ItZ2 (K : PySem.W.Frag) (b1 b2 : Bool) (a1 a2 : Addr) (xs ys : List V) : It := ⟨fun i H => (SqK b1 K H a1 xs ∧ SqK b2 K H a2 ys) ∧ i < min xs.length ys.length,
  fun i H v H' => ∃ T x y, v = .ref T ∧ H T = none ∧ H' = upd H T (.tup [x, y]) ∧ xs[i]? = some x ∧ ys[i]? = some y, fun i H => (SqK b1 K H a1 xs ∧ SqK b2 K H a2 ys) ∧ i = min xs.length ys.length⟩
theorem turnZ2 (b1 b2 : Bool) {P : Program} {w : World} {K : PySem.W.Frag} {elts : List Expr} {kk : Nat} {tpos : Pos} {a1 a2 N : Addr} (xs ys : List V) (h1 : a1 < N) (h2 : a2 < N) :
    Turn P w K (.Tuple elts kk tpos) (ItZ2 K b1 b2 a1 a2 xs ys) [N + 4, N + 2, N + 3, N, N + 1] (N + 4) (fun i h => IsZip h (N + 4) (N + 2) (N + 3) .none ∧ IsTupOf2 h (N + 2) (.ref N) (.ref (N + 1)) ∧ (∃ x y, IsTupOf2 h (N + 3) x y) ∧ IterK b1 h N a1 i ∧ IterK b2 h (N + 1) a2 i) := by
  refine turn_walks (wr := [N + 4, N + 3, N, N + 1]) (by simp) (fun b hb => by simp at hb ⊢; rcases hb with h | h | h | h <;> simp [h]) (fun i h st c hc => ?_) (fun i h h' st k => ?_) (fun X hP hw hK hc i pins s σ H I st hg => ?_) fun A i s Q E st h => ?_
  · obtain ⟨hz, hTI, ⟨x, y, hTO⟩, i1, i2⟩ := st
    have e' : c = N + 4 ∨ c = N + 2 ∨ c = N + 3 ∨ c = N ∨ c = N + 1 := by simpa using hc
    rcases e' with z | z | z | z | z
    · rw [z]; exact ⟨_, hz, fun v q => nomatch q⟩
    · rw [z]; exact ⟨_, hTI, fun v q => nomatch q⟩
    · rw [z]; exact ⟨_, hTO, fun v q => nomatch q⟩
    · rw [z]; exact iterK_obj b1 i1
    · rw [z]; exact iterK_obj b2 i2
  · obtain ⟨hz, hTI, ⟨x, y, hTO⟩, i1, i2⟩ := st
    exact ⟨k _ (by simp) _ hz, k _ (by simp) _ hTI, ⟨x, y, k _ (by simp) _ hTO⟩, iterK_at b1 i1 fun o q => k _ (by simp) o q, iterK_at b2 i2 fun o q => k _ (by simp) o q⟩
  · subst hP hw hK
    have hs : SqK b1 X.K H a1 xs ∧ SqK b2 X.K H a2 ys := by
      rcases hg with h | h
      · exact h.1
      · exact h.1
    obtain ⟨its, rv, pk⟩ := inv_seqK b1 I hs.1
    obtain ⟨its2, rv2, pk2⟩ := inv_seqK b2 I hs.2
    have hl := rv.length
    have hl2 := rv2.length
    have S : ZipSep2 (N + 4) (N + 2) (N + 3) N (N + 1) [N, a1] [N + 1, a2] := zip_sep2 (fp1 := [a1]) (fp2 := [a2]) (fun b hb => by simp at hb; rw [hb]; exact h1) (fun b hb => by simp at hb; rw [hb]; exact h2)
    refine ⟨_, _, _, _, _, WalksT.zipD2 S (drawsK (A := X.A.in1) b1 (I.ok.hd hc) N a1 (Nat.ne_of_lt h1) its.toArray) (drawsK (A := X.A.in1) b2 (I.ok.hd hc) (N + 1) a2 (Nat.ne_of_lt (Nat.lt_succ_of_lt h2)) its2.toArray),
      ⟨st.1, st.2.1, st.2.2.1, ⟨st.2.2.2.1, pk⟩, st.2.2.2.2, pk2⟩, fun h' st' => ⟨st'.1, st'.2.1, st'.2.2.1, st'.2.2.2.1.1, st'.2.2.2.2.1⟩, fun hg => ?_, fun hg => ?_, fun vals hP => ?_⟩
    · have := hg.2
      simp; omega
    · have := hg.2
      simp; omega
    · obtain ⟨x, y, hx, hy, rfl⟩ := hP
      have hx : its[i]? = some x := by simpa using hx
      have hy : its2[i]? = some y := by simpa using hy
      obtain ⟨v, hv, r⟩ := vals_inv rv hx
      obtain ⟨v2, hv2, r2⟩ := vals_inv rv2 hy
      exact ⟨[v, v2], .cons r (.cons r2 .nil), by simp, fun T hT => ⟨T, v, v2, rfl, hT, rfl, hv, hv2⟩⟩
  · exact wpAny_pyIter_zip st.1 h
def iZip2 (K : PySem.W.Frag) (ta : TA) : TI := fun σ H R => ta σ H fun vs H1 => ∃ b1 b2 a1 a2 xs ys, vs = [.ref a1, .ref a2] ∧ SqK b1 K H1 a1 xs ∧ SqK b2 K H1 a2 ys ∧ R (ItZ2 K b1 b2 a1 a2 xs ys) H1
theorem pi_zip2 {ta : TA} {elts : List Expr} {kk : Nat} (hg : Gl X "zip") (hm : X.mg "zip" = none) (ha : PA X [e, e2] ta) (hs : starEach [e, e2] X.env = (false, eval e X.env) :: starEach [e2] X.env) (hpl : (backTo pos (starEach [e2] X.env)).any (·.1) = false) :
    PI X (.Tuple elts kk tpos) (.Call (.Name "zip" p) [e, e2] [] pos) (iZip2 X.K ta) := by
  refine ⟨fun pins s σ H R I h => ?_⟩
  refine Call_ (ld_blt I hg hm PyProof.Rows.boot_zip (PyProof.Rows.callWith_type1 (thn (ha.run pos pins s σ H _ I h) fun us s1 ⟨vs, H1, I1, r1, q1⟩ => ?_) hs hpl))
  obtain ⟨b1, b2, a1, a2, xs, ys, ex, hq1, hq2, q⟩ := q1
  subst ex
  cases r1 with
  | cons r rr =>
    cases rr with
    | cons r' rr =>
      cases rr
      cases r
      cases r'
      obtain ⟨its, rv, pk⟩ := inv_seqK b1 I1 hq1
      obtain ⟨its2, rv2, pk2⟩ := inv_seqK b2 I1 hq2
      refine zip_begins2 (beginsK b1 a1 its.toArray) (beginsK b2 a2 its2.toArray) pk pk2 fun h' hz hTI hTO g1 g2 hsz hk => wpAny_pyIter_zip hz ?_
      have I2 : Inv X pins σ H1 { s1 with heap := h' } := I1.kept (t' := s1.toks) hk
      refine ⟨s1.heap.objs.size + 4, _, _, _, H1, rfl, I2, turnZ2 b1 b2 xs ys (isK_lt b1 pk) (isK_lt b2 pk2), ⟨hz, hTI, ⟨_, _, hTO⟩, iterK0 b1 g1, iterK0 b2 g2⟩, fun c hc => ?_, q⟩
      have e' : c = s1.heap.objs.size + 4 ∨ c = s1.heap.objs.size + 2 ∨ c = s1.heap.objs.size + 3 ∨ c = s1.heap.objs.size ∨ c = s1.heap.objs.size + 1 := by simpa using hc
      have hle : s1.heap.objs.size ≤ c := by
        rcases e' with z | z | z | z | z
        · rw [z]; exact Nat.le_add_right _ _
        · rw [z]; exact Nat.le_add_right _ _
        · rw [z]; exact Nat.le_add_right _ _
        · rw [z]; exact Nat.le_refl _
        · rw [z]; exact Nat.le_add_right _ _
      exact I1.fpOk hle (I1.hok.fresh hle)
abbrev zipL (ds es : List D) : List D := List.zipWith (fun a b => .tup [a, b]) ds es
theorem itD_Z2 {Y : Lay} {G1 : Hp} {b1 b2 : Bool} {a1 a2 : Addr} {vs us : List V} {ds es : List D} (h : SqK b1 Y.K G1 a1 vs) (h' : SqK b2 Y.K G1 a2 us) (r : RpL Y G1 ds vs) (r' : RpL Y G1 es us) : ItD Y G1 (zipL ds es) (ItZ2 Y.K b1 b2 a1 a2 vs us) := fun i G H le f row => by
  have hs : SqK b1 Y.K H a1 vs ∧ SqK b2 Y.K H a2 us := ⟨sqK_mono f (sqK_mono le h), sqK_mono f (sqK_mono le h')⟩
  have hl := r.length
  have hl2 := r'.length
  refine ⟨fun d hd => ?_, fun hi => ⟨hs, by rw [← hl, ← hl2]; simpa using hi⟩⟩
  rw [List.getElem?_zipWith] at hd
  cases hx : ds[i]? with
  | none => rw [hx] at hd; cases hd
  | some x =>
    cases hy : es[i]? with
    | none => rw [hx, hy] at hd; cases hd
    | some y =>
      rw [hx, hy] at hd
      cases hd
      have h1 := (List.getElem?_eq_some_iff.mp hx).1
      have h2 := (List.getElem?_eq_some_iff.mp hy).1
      refine ⟨⟨hs, by omega⟩, fun z H' hz => ?_⟩
      obtain ⟨T, x', y', rfl, hT, rfl, e1, e2⟩ := hz
      obtain ⟨v, hv, rv⟩ := r.get hx
      obtain ⟨u, hu, ru⟩ := r'.get hy
      rw [e1] at hv
      rw [e2] at hu
      cases hv
      cases hu
      exact yld_new f row hT (RpL.cons (Rp.mono le rv) (RpL.cons (Rp.mono le ru) RpL.nil))
def zipI2 (φ ψ : DEnv → List D → Res D) (env : DEnv) (st : List D) : Res (List D) := (φ env st).bind fun d st1 => (ψ env st1).bind fun d2 st2 => match sqF d, sqF d2 with
  | some ds, some es => .ok (zipL ds es) st2
  | _, _ => .bad
theorem di_zip2 {x : Str} {elts : List Expr} {kk : Nat} (hx : x = "zip") (hK : Z.Y.K = X.K) (hg : Gl X x) (hm : X.mg x = none) (h : DE X Z e φ) (h2 : DE X Z e2 ψ) (hs : starEach [e, e2] X.env = (false, eval e X.env) :: starEach [e2] X.env)
    (hs2 : starEach [e2] X.env = [(false, eval e2 X.env)]) (hpl : (backTo pos (starEach [e2] X.env)).any (·.1) = false) : DI X Z (.Tuple elts kk tpos) (.Call (.Name x p) [e, e2] [] pos) (zipI2 φ ψ) := by
  subst hx
  obtain ⟨t, q, rd⟩ := h
  obtain ⟨t2, q2, rd2⟩ := h2
  refine ⟨_, pi_zip2 hg hm (pa_cons q (pa_cons q2 pa_nil hs2) hs) hs hpl, fun σ H G env st R er po => ?_⟩
  refine rd σ H G env st _ er (Post.bind po fun d st1 v G1 H1 e x row rv po1 => ?_)
  refine rd2 σ H1 G1 env st1 _ (er.ext x row) (Post.bind po1 fun d2 st2 v2 G2 H2 e2 x2 row2 rv2 po2 => ?_)
  cases hd : sqF d with
  | none => simp only [hd] at po2; exact po2.elim
  | some ds =>
    cases hd2 : sqF d2 with
    | none => simp only [hd, hd2] at po2; exact po2.elim
    | some es =>
      simp only [hd, hd2] at po2
      obtain ⟨b, a, vs, rfl, h1, h2⟩ := sqF_rp (Rp.mono x2.g rv) hd
      obtain ⟨b', a', vs', rfl, h1', h2'⟩ := sqF_rp rv2 hd2
      refine ⟨b, b', a, a', vs, vs', rfl, by rw [← hK]; exact sqK_mono x2.f h1, by rw [← hK]; exact sqK_mono x2.f h1', ?_⟩
      rw [← hK]
      exact Post.here (R := fun G _ ds J => ItD Z.Y G ds J) po2 x2.f row2 (itD_Z2 h1 h1' h2 h2')
end
end DL

set_option Elab.async false
set_option linter.all false
set_option maxRecDepth 100000
namespace DL
open PySem PySem.Spec PyProof.Rows L2

theorem rp_obj {Y : Lay} {G : Hp} {c : Nat} {fs : List D} {a dx : Addr} {vs : List V} (h : G a = some (.ins (Y.C c) dx ((Y.fl c).zip vs))) (hl : vs.length = (Y.fl c).length) (r : RpL Y G fs vs) : Rp Y G (.obj c fs) (.ref a) := by
  rw [Rp]; exact ⟨a, dx, vs, rfl, h, hl, r⟩
section
variable {X : Cx} {Z : Ct} {k : Nat} {e : Expr} {φ : DEnv → List D → Res D} {pos pos' p p2 p3 : Pos}
/-! ### the row is written -/
def setRowS (i j : Nat) (φ : DEnv → List D → Res D) (env : DEnv) (st : List D) : SR := ofR (φ env st) fun d st1 => match env[i]? with
  | some (.val .row) => if j < st1.length then .nx env (st1.set j d) else .bad
  | _ => .bad
theorem ER.row_set {G0 H0 G H : Hp} {env : DEnv} {st : List D} {σ : L2.St} {j : Nat} {d : D} {v : V} {vs : List V} (er : ER Z.Y Z.fc Z.Nw G env st σ H) (en : En Z.Y.M Z.Nw G0 H0 G H) (r : Rp Z.Y G d v) (hv : H Z.Y.ρ = some (.lst vs)) :
    ER Z.Y Z.fc Z.Nw G env (st.set j d) σ (upd H Z.Y.ρ (.lst (vs.set j v))) ∧ En Z.Y.M Z.Nw G0 H0 G (upd H Z.Y.ρ (.lst (vs.set j v))) := by
  obtain ⟨vs', h1, h2, h3, h4, h5⟩ := er.row
  rw [hv] at h1
  cases h1
  have nM : ∀ {b : Addr}, ¬ Z.Y.M b → b ≠ Z.Y.ρ := fun n z => n (.inl z)
  refine ⟨⟨fun b o h => by rw [upd_ne (fun z => by rw [z, h2] at h; cases h)]; exact er.fz b o h, fun i s hs => ?_, er.dis, vs.set j v, upd_same, h2, RpL.set r j h3, fun p hp => tabS_upd (h4 p hp) hv (fun _ z => nomatch z) (fun _ _ z => codeO_lst z.symm), h5⟩, en.updR (.inl rfl)⟩
  obtain ⟨x, a1, a2⟩ := er.sl i s hs
  refine ⟨x, a1, ?_⟩
  cases s with
  | un => trivial
  | val d => exact a2
  | slf c ks fs =>
    obtain ⟨b0, b1, b2, b3, dx, us, b4, b5, b6⟩ := a2
    exact ⟨b0, b1, b2, b3, dx, us, by rw [upd_ne (nM b2)]; exact b4, b5, b6⟩
  | own o =>
    obtain ⟨a, b1, b2, b3, b4, b5⟩ := a2
    refine ⟨a, b1, b2, b3, b4, ?_⟩
    cases o with
    | lst ds => obtain ⟨us, c1, c2⟩ := b5; exact ⟨us, by rw [upd_ne (nM b3)]; exact c1, c2⟩
    | dct ks ws => obtain ⟨o, us, ws', c0, c1, c2, c3⟩ := b5; exact ⟨o, us, ws', by rw [upd_ne (nM b3)]; exact c0, c1, c2, c3⟩
theorem ds_stRow {i j : Nat} {x : Str} {kc : Nat} {tpos : Pos} (o : Okc X Z k) (hN : X.N[i]? = some x) (hv : Vis X.env.scope x) (hdb : (x == ("__debug__" : Str)) = false) (hcd : (x == ("__classdict__" : Str)) = false) (h : DE X Z e φ)
    (hs : swapsWithSole [.Subscript (.Name x p) (.Constant (.int (j : Int)) kc p2) tpos] e pos.line X.env = pure false) (hw : swappedStores [.Subscript (.Name x p) (.Constant (.int (j : Int)) kc p2) tpos] e X.env = pure none)
    (h1 : (assignEach [.Subscript (.Name x p) (.Constant (.int (j : Int)) kc p2) tpos] X.env).map (·.2) = [assign (.Subscript (.Name x p) (.Constant (.int (j : Int)) kc p2) tpos) X.env])
    (ha : ∀ v, assign (.Subscript (.Name x p) (.Constant (.int (j : Int)) kc p2) tpos) X.env v = (do
      let ov ← holding [v] (eval (.Name x p) X.env)
      let iv ← holding [v, ov] (eval (.Constant (.int (j : Int)) kc p2) X.env)
      standAt tpos
      holding [v, ov, iv] (setItem ov iv v)
      release [v, ov, iv] [])) : DSt X Z (.Assign [.Subscript (.Name x p) (.Constant (.int (j : Int)) kc p2) tpos] e pos) (setRowS i j φ) := by
  obtain ⟨t, q, rd⟩ := h
  refine ⟨_, ps_asg q (pg_sub (pe_var hN hv hdb hcd) pe_int set_list ha) hs hw h1, fun G0 H0 σ H G env st E er en po => rd σ H G env st _ er (SPost.post er en po fun d st1 v G1 H1 _ _ er1 en1 rv po1 => ?_)⟩
  cases he : env[i]? with
  | none => simp only [he] at po1; exact po1.elim
  | some sl =>
    cases sl with
    | val d0 =>
      cases d0 with
      | row =>
        simp only [he] at po1
        split at po1
        · rename_i hj
          obtain ⟨x', a1, v0, a2, a3⟩ := er1.sl i _ he
          rw [a2, row_inv a3] at a1
          obtain ⟨vs, r1, r2, r3, _⟩ := er1.row
          obtain ⟨er2, en2⟩ := ER.row_set (j := j) er1 en1 rv r1
          refine ⟨_, a1, Z.Y.ρ, vs, (j : Int), j, rfl, rfl, r1, ?_, po1 σ _ _ er2 en2⟩
          rw [← r3.length]
          unfold ixN
          simp; omega
        · exact po1.elim
      | _ => simp only [he] at po1; exact po1.elim
    | _ => simp only [he] at po1; exact po1.elim

/-! ### one's own list: append, extend -/
theorem ER.write_own {G0 H0 G H : Hp} {env : DEnv} {st : List D} {σ : L2.St} {i : Nat} {a : Addr} {ds ds' : List D} {vs' : List V} (er : ER Z.Y Z.fc Z.Nw G env st σ H) (en : En Z.Y.M Z.Nw G0 H0 G H) (he : env[i]? = some (.own (.lst ds))) (hσ : σ[i]? = some (some (.ref a))) (r : RpL Z.Y G ds' vs') :
    ER Z.Y Z.fc Z.Nw G (env.set i (.own (.lst ds'))) st σ (upd H a (.lst vs')) ∧ En Z.Y.M Z.Nw G0 H0 G (upd H a (.lst vs')) := by
  obtain ⟨x, a1, b, a2, a3, a4, a5, vs, a6, a7⟩ := er.sl i _ he
  rw [hσ] at a1
  cases a1
  cases a2
  refine ⟨⟨fun b o h => by rw [upd_ne (fun z => by rw [z, a3] at h; cases h)]; exact er.fz b o h, fun j s hs => ?_, fun j k o u hj hk n => ?_, ?_⟩, en.updA a5⟩
  · by_cases e : i = j
    · subst e
      have hi : i < env.length := (List.getElem?_eq_some_iff.mp he).1
      rw [List.getElem?_set_self hi] at hs
      cases hs
      exact ⟨_, hσ, a, rfl, a3, a4, a5, vs', upd_same, r⟩
    · rw [List.getElem?_set_ne e] at hs
      obtain ⟨x, b1, b2⟩ := er.sl j s hs
      refine ⟨x, b1, ?_⟩
      cases s with
      | un => trivial
      | val d => exact b2
      | slf c ks fs =>
        obtain ⟨c0, c1, c2, c3, dx, us, c4, c5, c6⟩ := b2
        exact ⟨c0, c1, c2, c3, dx, us, by rw [upd_ne (fun z => by rw [z, a6] at c4; cases c4)]; exact c4, c5, c6⟩
      | own o =>
        obtain ⟨b, c1, c2, c3, c4, c5⟩ := b2
        have nb : b ≠ a := fun z => er.dis j i o (.lst ds) hs he (fun q => e q.symm) (by rw [b1, c1, hσ, z])
        refine ⟨b, c1, c2, c3, c4, ?_⟩
        cases o with
        | lst ds => obtain ⟨us, d1, d2⟩ := c5; exact ⟨us, by rw [upd_ne nb]; exact d1, d2⟩
        | dct ks ws => obtain ⟨o, us, ws', d0, d1, d2, d3⟩ := c5; exact ⟨o, us, ws', by rw [upd_ne nb]; exact d0, d1, d2, d3⟩
  · have f : ∀ {j : Nat} {o : Own}, (env.set i (.own (.lst ds')))[j]? = some (.own o) → ∃ o', env[j]? = some (.own o') := fun {j o} h => by
      by_cases e : i = j
      · subst e; exact ⟨_, he⟩
      · exact ⟨o, by rwa [List.getElem?_set_ne e] at h⟩
    obtain ⟨o1, e1⟩ := f hj
    obtain ⟨o2, e2⟩ := f hk
    exact er.dis j k o1 o2 e1 e2 n
  · exact er.row.writeL a4 a6
def appS (i : Nat) (φ : DEnv → List D → Res D) (env : DEnv) (st : List D) : SR := match env[i]? with
  | some (.own (.lst ds)) => ofR (φ env st) fun d st1 => if ds.length < SZ then .nx (env.set i (.own (.lst (ds ++ [d])))) st1 else .bad
  | _ => .bad
def extS (i : Nat) (φ : DEnv → List D → Res D) (env : DEnv) (st : List D) : SR := match env[i]? with
  | some (.own (.lst ds)) => ofR (φ env st) fun d st1 => match d with
    | .lst es => if ds.length + es.length ≤ SZ then .nx (env.set i (.own (.lst (ds ++ es)))) st1 else .bad
    | _ => .bad
  | _ => .bad
/-- what the rules of a method call ask -/
structure McOk (X : Cx) (o : Expr) (m : Str) (e : Expr) (apos cpos : Pos) : Prop where
  base : attributeBase o m X.env (eval o X.env) = eval o X.env
  few : ((backTo cpos (starEach [e] X.env)).all (fun x => !x.1) && (backToKw cpos (keywordEach [] X.env)).all (fun x => x.1.isSome) && decide ([e].length + ([] : List Keyword).length + (if ([] : List Keyword).isEmpty then 0 else 1) < 30)) = true
  line : (apos.endLine == cpos.line) = true
  star : starEach [e] X.env = (false, eval e X.env) :: starEach [] X.env
  plain : (backTo cpos (starEach [] X.env)).any (·.1) = false
theorem ds_append {i : Nat} {x m : Str} {apos cpos : Pos} (o : Okc X Z k) (hm : m = "append") (hN : X.N[i]? = some x) (hv : Vis X.env.scope x) (hdb : (x == ("__debug__" : Str)) = false) (hcd : (x == ("__classdict__" : Str)) = false) (h : DE X Z e φ) (M : McOk X (.Name x p) m e apos cpos)
    (hs : swapsWith (.Call (.Attribute (.Name x p) m apos) [e] [] cpos) none pos.line X.env = pure false) : DSt X Z (.Expr (.Call (.Attribute (.Name x p) m apos) [e] [] cpos) pos) (appS i φ) := by
  subst hm
  obtain ⟨t, q, rd⟩ := h
  refine ⟨_, ps_expr (pe_bm PySem.F.plainAttrs_list PySem.F.slot_list_append PySem.F.type_list_append mt_append (pe_var hN hv hdb hcd) (pa_cons q pa_nil M.star) M.base M.few M.line M.star M.plain) hs, fun G0 H0 σ H G env st E er en po => ?_⟩
  unfold appS at po
  split at po
  · rename_i ds he
    obtain ⟨x', a1, a, a2, a3, a4, a5, us, a6, a7⟩ := er.sl i _ he
    rw [a2] at a1
    refine ⟨.ref a, a1, .inl ⟨rfl, us, SqL.of a6⟩, ?_⟩
    refine rd σ H G env st _ er (SPost.post er en po fun d st1 v G1 H1 _ x1 er1 en1 rv po1 => ?_)
    split at po1
    · rename_i hl
      have ha := x1.h _ _ a6 a4
      obtain ⟨er2, en2⟩ := ER.write_own er1 en1 he a1 ((RpL.mono x1.g a7).append (RpL.cons rv RpL.nil))
      exact ⟨a, us, v, rfl, rfl, ha, by rw [← a7.length, sz_line]; exact hl, po1 σ _ _ er2 en2⟩
    · exact po1.elim
  · exact po.elim
theorem ds_extend {i : Nat} {x m : Str} {apos cpos : Pos} (o : Okc X Z k) (hm : m = "extend") (hN : X.N[i]? = some x) (hv : Vis X.env.scope x) (hdb : (x == ("__debug__" : Str)) = false) (hcd : (x == ("__classdict__" : Str)) = false) (h : DE X Z e φ) (M : McOk X (.Name x p) m e apos cpos)
    (hs : swapsWith (.Call (.Attribute (.Name x p) m apos) [e] [] cpos) none pos.line X.env = pure false) : DSt X Z (.Expr (.Call (.Attribute (.Name x p) m apos) [e] [] cpos) pos) (extS i φ) := by
  subst hm
  obtain ⟨t, q, rd⟩ := h
  refine ⟨_, ps_expr (pe_bm PySem.F.plainAttrs_list PySem.F.slot_list_extend PySem.F.type_list_extend mt_extend (pe_var hN hv hdb hcd) (pa_cons q pa_nil M.star) M.base M.few M.line M.star M.plain) hs, fun G0 H0 σ H G env st E er en po => ?_⟩
  unfold extS at po
  split at po
  · rename_i ds he
    obtain ⟨x', a1, a, a2, a3, a4, a5, us, a6, a7⟩ := er.sl i _ he
    rw [a2] at a1
    refine ⟨.ref a, a1, .inl ⟨rfl, us, SqL.of a6⟩, ?_⟩
    refine rd σ H G env st _ er (SPost.post er en po fun d st1 v G1 H1 _ x1 er1 en1 rv po1 => ?_)
    split at po1
    · rename_i es
      split at po1
      · rename_i hl
        have ha := x1.h _ _ a6 a4
        obtain ⟨b, zs, rfl, b1, b2⟩ := lst_inv rv
        obtain ⟨er2, en2⟩ := ER.write_own er1 en1 he a1 ((RpL.mono x1.g a7).append b2)
        exact ⟨a, b, us, zs, rfl, rfl, ha, x1.f _ _ b1, by rw [← a7.length, ← b2.length, sz_line]; exact hl, po1 σ _ _ er2 en2⟩
      · exact po1.elim
    · exact po1.elim
  · exact po.elim

/-! ### an attribute that is read -/
theorem lookup_zip {f : Str} {j : Nat} : ∀ {l : List Str} {vs : List V}, l.idxOf f = j → j < l.length → vs.length = l.length → (l.zip vs).lookup f = vs[j]?
  | [], _, _, h, _ => by simp at h
  | x :: l, [], _, _, h => by simp at h
  | x :: l, v :: vs, h1, h2, h3 => by
    rw [List.zip_cons_cons, List.lookup_cons]
    rw [List.idxOf_cons] at h1
    cases hb : x == f with
    | true =>
      rw [hb] at h1
      have : (f == x) = true := by rw [beq_iff_eq] at hb ⊢; exact hb.symm
      rw [this]
      simp at h1
      subst h1
      rfl
    | false =>
      rw [hb] at h1
      have : (f == x) = false := by
        cases q : f == x with
        | false => rfl
        | true => rw [beq_iff_eq] at q; rw [q] at hb; simp at hb
      rw [this]
      simp at h1
      subst h1
      have ih := lookup_zip (f := f) (l := l) (vs := vs) rfl (by simpa using h2) (by simpa using h3)
      rw [ih]
      simp
/-- a class of the text and an attribute of its instances -/
structure FldOk (K : PySem.W.Frag) (Y : Lay) (c : Nat) (f : Str) (j : Nat) : Prop where
  cls : Cls K (Y.C c)
  na : NoAttr K (Y.C c) f
  ix : (Y.fl c).idxOf f = j
  lt : j < (Y.fl c).length
def fldE (ix : Nat → Option Nat) (φ : DEnv → List D → Res D) (env : DEnv) (st : List D) : Res D := (φ env st).bind fun d st1 => match d with
  | .obj c fs => (match ix c with
    | some j => ofO fs[j]? st1
    | none => .bad)
  | _ => .bad
theorem de_fld {f : Str} {ix : Nat → Option Nat} (o : Okc X Z k) (h : DE X Z e φ) (hb : attributeBase e f X.env (eval e X.env) = eval e X.env) (hf : ∀ c j, ix c = some j → FldOk X.K Z.Y c f j) : DE X Z (.Attribute e f pos) (fldE ix φ) := by
  obtain ⟨t, q, rd⟩ := h
  refine ⟨_, pe_fld q hb, fun σ H G env st Q er po => rd σ H G env st _ er (Post.bind po fun d st1 v G1 H1 e x row rv po1 => ?_)⟩
  cases d with
  | obj c fs =>
    dsimp only at po1
    cases hi : ix c with
    | none => rw [hi] at po1; exact po1.elim
    | some j =>
      simp only [hi] at po1
      have F := hf c j hi
      cases hd : fs[j]? with
      | none => rw [hd] at po1; exact po1.elim
      | some d =>
        rw [hd] at po1
        obtain ⟨a, dx, vs, rfl, a1, a2, a3⟩ := obj_inv rv
        obtain ⟨u, hu, ru⟩ := a3.get hd
        exact ⟨a, Z.Y.C c, dx, _, u, rfl, x.f _ _ a1, F.cls, F.na, (lookup_zip F.ix F.lt a2).trans hu, Post.here (R := rV Z.Y) po1 x.f row ru⟩
  | _ => exact po1.elim

/-! ### o.m(..) -/
def methE (c : Nat) (Φ : List D → List D → Res D) (φ : DEnv → List D → Res D) (ψ : DEnv → List D → Res (List D)) (env : DEnv) (st : List D) : Res D := (φ env st).bind fun d st1 => match d with
  | .obj c' fs => if c' = c then (ψ env st1).bind fun ds st2 => Φ (.obj c' fs :: ds) st2 else .bad
  | _ => .bad
/-- a class and its method -/
structure MetOk (K : PySem.W.Frag) (Y : Lay) (c : Nat) (m : Str) (f : Addr) : Prop where
  cls : Cls K (Y.C c)
  met : Meth K (Y.C c) m f
  no : m ∉ Y.fl c
theorem lookup_no {m : Str} : ∀ {l : List Str} {vs : List V}, m ∉ l → (l.zip vs).lookup m = none
  | [], _, _ => rfl
  | x :: l, [], _ => rfl
  | x :: l, v :: vs, h => by
    rw [List.zip_cons_cons, List.lookup_cons]
    have : (m == x) = false := by
      cases q : m == x with
      | false => rfl
      | true => rw [beq_iff_eq] at q; exact absurd (by rw [q]; exact List.mem_cons_self) h
    rw [this]
    exact lookup_no fun z => h (List.mem_cons_of_mem _ z)
theorem de_meth {c : Nat} {f : Addr} {m : Str} {a : Expr} {as : List Expr} {apos : Pos} {pl : Sem Bool} {Φ : List D → List D → Res D} {ψ : DEnv → List D → Res (List D)} (o : Okc X Z k) (M : MetOk X.K Z.Y c m f) (F : FnC X.prog X.w X.K X.mg X.base k f Z.Y Φ) (h : DE X Z e φ) (ha : DA X Z (a :: as) ψ)
    (hst : starEach (a :: as) X.env = (false, eval a X.env) :: starEach as X.env) (hpl : (backTo pos (starEach as X.env)).any (·.1) = false)
    (ht : eval (.Call (.Attribute e m apos) (a :: as) [] pos) X.env = (do
      let ov ← eval e X.env
      standAt apos.atName
      let (f, first) ← holding [ov] (getMethod ov m pl)
      callWith pos f first (backTo pos (starEach (a :: as) X.env)) (backToKw pos (keywordEach [] X.env)))) : DE X Z (.Call (.Attribute e m apos) (a :: as) [] pos) (methE c Φ φ ψ) := by
  obtain ⟨t, q, rd⟩ := h
  obtain ⟨t2, q2, rd2⟩ := ha
  obtain ⟨fd, ps, F, hk, hb⟩ := F.ex
  refine ⟨_, pe_methG q M.cls M.met F o.room o.gd hb (E := WE Z.W) (fun σ => passAt o.tk σ) q2 hst hpl ht, fun σ H G env st Q er po => ?_⟩
  refine rd σ H G env st _ er (Post.bind po fun d st1 v G1 H1 e x row rv po1 => ?_)
  cases d with
  | obj c' fs =>
    dsimp only at po1
    split at po1
    · rename_i hc
      subst hc
      obtain ⟨a, dx, vs, rfl, a1, a2, a3⟩ := obj_inv rv
      refine ⟨a, dx, _, rfl, x.f _ _ a1, lookup_no M.no, rd2 σ H1 G1 env st1 _ (er.ext x row) (Post.bind po1 fun ds st2 us G2 H2 e2 x2 row2 rv2 po2 => ?_)⟩
      exact ⟨Z.Y.ρ, G2, st2, _, RpL.cons (Rp.mono x2.g rv) rv2, x2.f, row2, Post.c po2⟩
    · exact po1.elim
  | _ => exact po1.elim
theorem de_meth0 {c : Nat} {f : Addr} {m : Str} {apos : Pos} {pl : Sem Bool} {Φ : List D → List D → Res D} (o : Okc X Z k) (M : MetOk X.K Z.Y c m f) (F : FnC X.prog X.w X.K X.mg X.base k f Z.Y Φ) (h : DE X Z e φ)
    (ht : eval (.Call (.Attribute e m apos) [] [] pos) X.env = (do
      let ov ← eval e X.env
      standAt apos.atName
      let (f, first) ← holding [ov] (getMethod ov m pl)
      callWith pos f first (backTo pos (starEach [] X.env)) (backToKw pos (keywordEach [] X.env)))) : DE X Z (.Call (.Attribute e m apos) [] [] pos) (methE c Φ φ nilA) := by
  obtain ⟨t, q, rd⟩ := h
  obtain ⟨fd, ps, F, hk, hb⟩ := F.ex
  refine ⟨_, pe_methG0 q M.cls M.met F o.room o.gd hb (E := WE Z.W) (fun σ => passAt o.tk σ) ht, fun σ H G env st Q er po => ?_⟩
  refine rd σ H G env st _ er (Post.bind po fun d st1 v G1 H1 e x row rv po1 => ?_)
  cases d with
  | obj c' fs =>
    dsimp only at po1
    split at po1
    · rename_i hc
      subst hc
      obtain ⟨a, dx, vs, rfl, a1, a2, a3⟩ := obj_inv rv
      exact ⟨a, dx, _, rfl, x.f _ _ a1, lookup_no M.no, Z.Y.ρ, G1, st1, _, RpL.cons rv RpL.nil, x.f, row, Post.c po1⟩
    · exact po1.elim
  | _ => exact po1.elim

/-! ### C(..): a new instance, frozen behind its __init__ -/
/-- what an __init__ leaves -/
def IPost (Y : Lay) (c : Nat) (x : Addr) (G H : Hp) (r : Res (List D)) (Q : VK) (E : XK) : Prop := match r with
  | .ok fs st => ∀ dx vs G' H', Le G G' → Le G' H' → (∀ a o, H a = some o → ¬ Y.M a → a ≠ x → H' a = some o) → (∀ a o, G' a = some o → G a = some o ∨ H a = none) → H' x = some (.ins (Y.C c) dx ((Y.fl c).zip vs)) → vs.length = (Y.fl c).length → RpL Y G' fs vs → RowR Y G' st H' → Q .non H'
  | .exc e fs st => ∀ cls d G' H', Le G G' → Le G' H' → (∀ a o, H a = some o → ¬ Y.M a → a ≠ x → H' a = some o) → (∀ a o, G' a = some o → G a = some o ∨ H a = none ∨ a = x) → RowR Y G' st H' → ExcR Y G' H' e fs cls d → E cls d H'
  | .bad => False
def spI (Y : Lay) (c : Nat) (Φ : List D → List D → Res (List D)) : Sp := fun vs H Q E => ∃ ρ G st ds x dx us, vs = .ref x :: us ∧ RpL { Y with ρ := ρ } G ds us ∧ Le G H ∧ RowR { Y with ρ := ρ } G st H ∧ H x = some (.ins (Y.C c) dx []) ∧ H dx = some (.own x) ∧ (¬ ({ Y with ρ := ρ } : Lay).M x) ∧ (¬ ({ Y with ρ := ρ } : Lay).M dx) ∧ G x = none ∧ G dx = none ∧
  IPost { Y with ρ := ρ } c x G H (Φ ds st) Q E
structure MkC (P : Program) (w : World) (K : PySem.W.Frag) (mg : Str → Option Value) (base : Heap) (k : Nat) (Y : Lay) (c : Nat) (Φ : List D → List D → Res (List D)) : Prop where
  ex : ∃ f fd ps, Mk K (Y.C c) f ∧ FnG P w K mg base (L2.CX P w) k f fd ps (spI Y c Φ) ∧ Binds K fd ps []
def makeE (c : Nat) (Φ : List D → List D → Res (List D)) (ψ : DEnv → List D → Res (List D)) (env : DEnv) (st : List D) : Res D := (ψ env st).bind fun ds st1 => (Φ ds st1).bind fun fs st2 => .ok (.obj c fs) st2
theorem de_make {c j : Nat} {x : Str} {a : Expr} {as : List Expr} {Φ : List D → List D → Res (List D)} {ψ : DEnv → List D → Res (List D)} (o : Okc X Z k) (hj : j + 1 ≤ k) (M : MkC X.prog X.w X.K X.mg X.base j Z.Y c Φ) (hm : X.mg x = some (.ref (Z.Y.C c))) (hg : Gl X x) (ha : DA X Z (a :: as) ψ)
    (hdb : (x == ("__debug__" : Str)) = false) (he : starEach (a :: as) X.env = (false, eval a X.env) :: starEach as X.env) (hpl : (backTo pos (starEach as X.env)).any (·.1) = false) : DE X Z (.Call (.Name x p) (a :: as) [] pos) (makeE c Φ ψ) := by
  obtain ⟨t, q, rd⟩ := ha
  obtain ⟨f, fd, ps, MK, F, hb⟩ := M.ex
  refine ⟨_, pe_makeG MK F (o.room.mono hj) o.gd hg hm hb (E := WE Z.W) (fun σ => passAt o.tk σ) q hdb he hpl, fun σ H G env st Q er po => ?_⟩
  refine rd σ H G env st _ er (Post.bind po fun ds st1 us G1 H1 e x1 row rv po1 => ?_)
  intro y dy hy hdy hne
  have ny : ¬ Z.Y.M y := row.newM hy
  have ndy : ¬ Z.Y.M dy := row.newM hdy
  have gy : G1 y = none := by
    cases q : G1 y with
    | none => rfl
    | some u => rw [x1.f _ _ q] at hy; cases hy
  have gdy : G1 dy = none := by
    cases q : G1 dy with
    | none => rfl
    | some u => rw [x1.f _ _ q] at hdy; cases hdy
  have at_ : ∀ b, b ≠ y → b ≠ dy → (upd (upd H1 dy (.own y)) y (.ins (Z.Y.C c) dy [])) b = H1 b := fun b h1 h2 => by rw [upd_ne h1, upd_ne h2]
  have old : ∀ b o, H1 b = some o → b ≠ y ∧ b ≠ dy := fun b o h => ⟨fun z => (by rw [z, hy] at h; cases h), fun z => (by rw [z, hdy] at h; cases h)⟩
  have f2 : Le G1 (upd (upd H1 dy (.own y)) y (.ins (Z.Y.C c) dy [])) := fun b o h => by
    have h := x1.f b o h
    rw [at_ b (old b o h).1 (old b o h).2]; exact h
  have row2 : RowR Z.Y G1 st1 (upd (upd H1 dy (.own y)) y (.ins (Z.Y.C c) dy [])) := by
    have r1 := row.writeN (o := .own y) hdy
    exact r1.writeN (by rw [upd_ne hne.symm]; exact hy)
  refine ⟨Z.Y.ρ, G1, st1, ds, y, dy, us, rfl, rv, f2, row2, upd_same, by rw [upd_ne hne, upd_same], ny, ndy, gy, gdy, ?_⟩
  cases hΦ : Φ ds st1 with
  | bad => rw [hΦ] at po1; exact po1
  | exc e2 fs st2 =>
    rw [hΦ] at po1
    intro cls d G' H' le f3 hk hn row3 ex
    refine po1 cls d G' H' ⟨le, f3, fun b o h n => hk b o (by rw [at_ b (old b o h).1 (old b o h).2]; exact h) n (old b o h).1, fun b o h => ?_⟩ row3 ex
    rcases hn b o h with z | z | z
    · exact .inl z
    · by_cases e1 : b = y
      · exact .inr (e1 ▸ hy)
      · by_cases e2 : b = dy
        · exact .inr (e2 ▸ hdy)
        · rw [at_ b e1 e2] at z; exact .inr z
    · exact .inr (z ▸ hy)
  | ok fs st2 =>
    rw [hΦ] at po1
    intro dy' vs G' H' le f3 hk hn hx hlen rfs row3
    refine ⟨rfl, ?_⟩
    have gy' : G' y = none := by
      cases q : G' y with
      | none => rfl
      | some u =>
        rcases hn y u q with z | z
        · rw [gy] at z; cases z
        · rw [upd_same] at z; cases z
    have ext : Ext Z.Y.M G1 H1 G' H' := ⟨le, f3, fun b o h n => hk b o (by rw [at_ b (old b o h).1 (old b o h).2]; exact h) n (old b o h).1, fun b o h => by
      rcases hn b o h with z | z
      · exact .inl z
      · by_cases e1 : b = y
        · exact .inr (e1 ▸ hy)
        · by_cases e2 : b = dy
          · exact .inr (e2 ▸ hdy)
          · rw [at_ b e1 e2] at z; exact .inr z⟩
    refine po1 (.ref y) (upd G' y (.ins (Z.Y.C c) dy' ((Z.Y.fl c).zip vs))) H' (ext.freeze hy gy' hx) (row3.freeze ny gy') ?_
    refine rp_obj upd_same hlen ?_
    exact (RpL.mono (fun b u h => by rw [upd_ne (ne_of_none h gy')]; exact h) rfs)
end
end DL

set_option Elab.async false
set_option linter.all false
set_option maxRecDepth 100000
set_option maxHeartbeats 2000000
/-! An own error (over classes of the text, then ValueError) whose __init__ says super().__init__('..') and stores its parameters under their names. -/
namespace PySem
namespace DErr
open PySem.W PySem.Calls PyProof.Rows PySem.HandSPX
/-- self.f = f, for each name -/
inductive Stores : List Str → List Stmt → Prop where
  | nil : Stores [] []
  | cons {f : Str} {fs : List Str} {ss : List Stmt} (q1 q2 q3 q4 : Pos) (h : Stores fs ss) : Stores (f :: fs) (.Assign [.Attribute (.Name "self" q1) f q2] (.Name f q3) q4 :: ss)
def Body (fs : List Str) (b : List Stmt) : Prop := ∃ (p0 p1 p2 p3 p4 p5 : Pos) (txt : Str) (j : Nat) (ss : List Stmt), b = .Expr (.Call (.Attribute (.Call (.Name "super" p0) [] [] p1) "__init__" p2) [.Constant (.str txt) j p3] [] p4) p5 :: ss ∧ Stores fs ss
/-- what the written part says of such a class at C and of its __init__ at fI -/
structure Txt (prog : Program) (K : Frag) (C fI : Addr) (fs : List Str) : Prop where
  oex : L2.OexC K C
  noN : ∀ f ∈ fs, findIn K (.ref C) f = some none
  iC : findIn K (.ref C) "__init__" = some (some (.ref fI))
  tI : typeIn K (.ref fI) = some (.type "function")
  sub : mroIn K C (.ref C) = some true
  suI : ks_superIn K C C "__init__" = some (some (.builtin "ValueError.__init__"))
  opq : nsIn K cStatics "thirdparty.any" = some none
  sVE : subIn K (.ref C) (.type "ValueError") = some true
  fn : ∃ (oc : Value) (od : Option Addr) (qual : Str) (params : Arguments) (body : List Stmt) (scope : Scope) (dV kV doc pm : Value) (an : Option Addr) (cda cc : Addr) (ct : Value) (osl : Array (Option Value)) (cl : Value) (cld : Option Addr) (csl : Array (Option Value)) (ccl : Value) (cdd : Option Addr) (vs : Array Value) (ccs : Array (Option Value)) (file : Str) (tf : Tok) (ar : Arg),
    K.lookup fI = some ⟨oc, od, .func (ksFn "__init__" qual params body scope dV kV doc pm an (.ref cda) ct cc), osl⟩ ∧ codeIn K (.ref cda) qual = true ∧ Body fs body ∧
    K.lookup cc = some ⟨cl, cld, .cell (some (.ref C)), csl⟩ ∧ K.lookup cda = some ⟨ccl, cdd, .fields vs, ccs⟩ ∧ vs[2]? = some (.str file tf) ∧ ((prog.main.file : Str) == file) = true ∧ (prog.main.scope.names.lookup ("super" : Str)).isSome = false ∧
    (params.posonlyargs ++ params.args).head? = some ar ∧ ar.arg = "self" ∧ scope.kind = .function ∧ scope.isCoroutine = false ∧ scope.isGenerator = false ∧ (∀ x ∈ scope.names, x.2 ≠ .cell) ∧ scope.names.lookup ("super" : Str) = some .globalImplicit ∧ scope.names.lookup ("__class__" : Str) = some .free ∧
    (∀ y ∈ ("self" : Str) :: fs, scope.names.lookup y = some .local) ∧ (("self" : Str) :: fs).Nodup ∧ (∀ y ∈ fs, (y == ("__debug__" : Str)) = false) ∧
    (∀ (s : Shared) (us : List Value), us.length = fs.length + 1 → BindsTo s (ksFn "__init__" qual params body scope dV kV doc pm an (.ref cda) ct cc) ⟨us, []⟩ ((("self" : Str) :: fs).zip us)) ∧
    (∀ st, body.head? = some st → ∀ (e : Expr) (p : Pos), st = .Expr e p → ∀ env : Env, swapsWith e none p.line env = pure false) ∧
    (∀ st, body.head? = some st → ∀ (o : Expr) (m : Str) (ap : Pos) (as : List Expr) (p p' : Pos), st = .Expr (.Call (.Attribute o m ap) as [] p) p' → ∀ env : Env, ∃ pl : Sem Bool, eval (.Call (.Attribute o m ap) as [] p) env = (do
      let ov ← attributeBase o m env (eval o env)
      standAt ap.atName
      let (f, first) ← holding [ov] (getMethod ov m pl)
      callWith p f first (backTo p (starEach as env)) []))
/-- an exception of the class at C with its dict (none as yet) -/
def ExAt (h : Heap) (x C t1 : Addr) (d : Option Addr) (m0 : Str → Option Value) (nl : List Str) : Prop :=
  h.get? x = some { cls := .ref C, dict := d, data := .fields #[.ref t1, .none, .none, .none, .bool false, .none] } ∧ match d with
  | none => nl = [] ∧ m0 = fun _ => none
  | some dx => h.Ns1 dx m0 ∧ Within m0 nl ∧ nl.length ≤ 900 ∧ dx ≠ x
section
variable {prog : Program} {w : World} {A : Around} {E : Value → Shared → Prop} {s : Shared} {K : Frag} {C : Addr} {env : Env} {L x t1 : Addr}
/-- one store -/
theorem store1 (O : L2.OexC K C) (X : K.In s.heap) {d : Option Addr} {m0 : Str → Option Value} {nl : List Str} {f : Str} {v : Value} {Q : Unit → Shared → Prop} (hx : ExAt s.heap x C t1 d m0 nl) (hno : findIn K (.ref C) f = some none)
    (hq : ∀ h' tk dx m1, (∀ b o, b ≠ x → d ≠ some b → s.heap.get? b = some o → h'.get? b = some o) → (d = none ∧ s.heap.objs.size ≤ dx ∨ d = some dx) → m1 = (fun y => if y = f then some v else m0 y) → (nl.length ≤ 890 → ExAt h' x C t1 (some dx) m1 (f :: nl)) → Q () { s with heap := h', toks := tk }) :
    wpAny (model prog w) A (setAttr (.ref x) f v) Q E s := by
  obtain ⟨nm, q, N, bs, bm, sn, sub, ab, col, dd, k0, k1, k2, k3, k5, hC, hbm⟩ := O.cls
  have hcl : clsIn K C = some { name := nm, bases := bs, mro := .ref C :: bm, ns := N, qualname := q, hasDict := true, slotNames := sn, subclasses := sub, abstract := ab, collection := col, hasDel := false } := by unfold clsIn; rw [hC] <;> rfl
  obtain ⟨ho, hd⟩ := hx
  obtain ⟨hp, g, dr, t, os⟩ := s
  cases d with
  | none =>
    obtain ⟨rfl, rfl⟩ := hd
    refine set_plain X (ox := { cls := .ref C, dict := none, data := .fields #[.ref t1, .none, .none, .none, .bool false, .none] }) (od := none) ⟨ho, rfl, rfl, trivial⟩ O.sa ?_
    refine exc_osa X ho hcl (show refsVE (.ref C :: bm) = true from hbm) rfl hno (fun h' tk' dx k dn dne hx hn => ?_)
    exact hq h' tk' dx _ (fun b o h1 _ h3 => k b o h1 h3) (.inl ⟨rfl, dn⟩) rfl fun _ => ⟨hx, hn, Within.cons f v (fun y hy => absurd rfl hy), by simp, dne⟩
  | some dx =>
    obtain ⟨hns, hw, hz, hne⟩ := hd
    obtain ⟨oD, _, _, hoD, _, _⟩ := hns.count hw
    refine set_plain X (ox := { cls := .ref C, dict := some dx, data := .fields #[.ref t1, .none, .none, .none, .bool false, .none] }) (od := some oD) ⟨ho, rfl, rfl, hoD⟩ O.sa ?_
    refine PySem.OEX.osa_old X ho hns hw (by omega) hcl (show refsVE (.ref C :: bm) = true from hbm) rfl hno (fun h' tk' k hn => ?_)
    exact hq h' tk' dx _ (fun b o _ h2 h3 => k b o (fun z => h2 (by rw [z])) h3) (.inr rfl) rfl fun hl => ⟨k _ _ (Ne.symm hne) ho, hn, Within.cons f v hw, by simp; omega, hne⟩
theorem lookup_zip_cons {f : Str} {v : Value} {fs : List Str} {us : List Value} (hf : f ∉ fs) (m0 : Str → Option Value) (y : Str) :
    ((fs.zip us).lookup y).or (if y = f then some v else m0 y) = (((f :: fs).zip (v :: us)).lookup y).or (m0 y) := by
  rw [List.zip_cons_cons, List.lookup_cons]
  by_cases h : y = f
  · subst h
    have e : (fs.zip us).lookup y = none := by
      cases q : (fs.zip us).lookup y with
      | none => rfl
      | some u => exact absurd (List.of_mem_zip (PySem.mem_of_lookup q)).1 hf
    rw [e, if_pos rfl]
    simp
  · have e : (y == f) = false := by simpa using h
    rw [e, if_neg h]
theorem stores_ok (O : L2.OexC K C) {fs : List Str} {ss : List Stmt} (st : Stores fs ss) {m : Str → Option Value} {Q : Flow → Shared → Prop} (hk : env.scope.kind = .function) (hL : env.locals = L) (hself : env.kindOf "self" = some .local) (hloc : ∀ f ∈ fs, env.kindOf f = some .local)
    (hdb : ∀ y ∈ fs, (y == ("__debug__" : Str)) = false) (hms : m "self" = some (.ref x)) (nx : K.lookup x = none) (nLx : L ≠ x) :
    ∀ {s : Shared} {d : Option Addr} {m0 : Str → Option Value} {nl : List Str} {us : List Value}, fs.Nodup → us.length = fs.length → nl.length + fs.length ≤ 800 → (∀ p ∈ fs.zip us, m p.1 = some p.2) → (∀ f ∈ fs, findIn K (.ref C) f = some none) →
      K.In s.heap → s.heap.Ns L m → ExAt s.heap x C t1 d m0 nl → (∀ dx, d = some dx → K.lookup dx = none ∧ dx ≠ L) →
      (∀ h' tk d' mE nl', (∀ b o, b ≠ x → d ≠ some b → s.heap.get? b = some o → h'.get? b = some o) → ExAt h' x C t1 d' mE nl' → (d' = d ∨ d = none ∧ ∃ dx, d' = some dx ∧ s.heap.objs.size ≤ dx) → (∀ y, mE y = ((fs.zip us).lookup y).or (m0 y)) → (fs ≠ [] → d' ≠ none) → Q .next { s with heap := h', toks := tk }) →
      wpAny (model prog w) A (execs ss env) Q E s := by
  induction st with
  | nil =>
    intro s d m0 nl us _ _ _ _ _ X hn hx hd hq
    exact wpAny_execs_nil (hq s.heap s.toks d m0 nl (fun _ _ _ _ h => h) hx (.inl rfl) (fun y => by simp) (fun z => absurd rfl z))
  | @cons f fs ss q1 q2 q3 q4 h ih =>
    intro s d m0 nl us nd hl hz hm hno X hn hx hd hq
    cases us with
    | nil => cases hl
    | cons v us =>
      have hl : us.length = fs.length := by simpa using hl
      have nd1 := (List.nodup_cons.mp nd).1
      have hv : m f = some v := hm (f, v) (by simp)
      refine wpAny_execs_cons (plainObj_wpAny_Assign_Attribute ?_)
      subst hL
      refine ESX.ldL hn hv (ESX.ldL hn hms ?_ hk hself) hk (hloc f List.mem_cons_self) (hdb f List.mem_cons_self)
      refine store1 O X hx (hno f List.mem_cons_self) fun h' tk dx m1 k hdx hm1 ex => ?_
      have hz' : nl.length + (fs.length + 1) ≤ 800 := by simpa using hz
      have ex := ex (by omega)
      have ndx : ∀ b o, s.heap.get? b = some o → (d = none ∧ s.heap.objs.size ≤ dx) → b ≠ dx := fun b o e ⟨_, z⟩ q => absurd (Nat.lt_of_lt_of_le (Heap.lt_size e) (by rw [q]; exact z)) (Nat.lt_irrefl _)
      have kdx : K.lookup dx = none ∧ dx ≠ env.locals := by
        rcases hdx with hdx | hdx
        · refine ⟨?_, fun z => ?_⟩
          · cases q : K.lookup dx with
            | none => rfl
            | some o => exact absurd rfl (ndx dx o (X _ _ q) hdx)
          · obtain ⟨o, _, _, e, _⟩ := hn
            exact ndx _ o e hdx z.symm
        · exact hd dx hdx
      have X' : K.In h' := fun b o e => k b o (fun z => by rw [z, nx] at e; cases e) (fun z => by rw [(hd b z).1] at e; cases e) (X b o e)
      have hn' : h'.Ns env.locals m := hn.at fun o e => k _ o nLx (fun z => (hd _ z).2 rfl) e
      refine ih (fun y hy => hloc y (List.mem_cons_of_mem _ hy)) (fun y hy => hdb y (List.mem_cons_of_mem _ hy)) (s := { s with heap := h', toks := tk }) (d := some dx) (m0 := m1) (nl := f :: nl) (us := us) (List.nodup_cons.mp nd).2 hl (by simp; omega) (fun p hp => hm p (by simp [hp])) (fun y hy => hno y (List.mem_cons_of_mem _ hy)) X' hn' ex
        (fun dx' e => by cases e; exact kdx) fun h'' tk' d' mE nl' k' ex' hd' hmE _ => ?_
      have hd'' : d' = some dx := by
        rcases hd' with z | ⟨z, _⟩
        · exact z
        · cases z
      refine hq h'' tk' d' mE nl' (fun b o h1 h2 h3 => k' b o h1 (fun z => ?_) (k b o h1 h2 h3)) ex' ?_ (fun y => ?_) (fun _ => by rw [hd'']; exact fun z => by cases z)
      · cases z
        rcases hdx with hdx | hdx
        · exact ndx _ o h3 hdx rfl
        · exact h2 hdx
      · rcases hdx with hdx | hdx
        · exact .inr ⟨hdx.1, dx, hd'', hdx.2⟩
        · exact .inl (hd''.trans hdx.symm)
      · rw [hmE y, hm1]
        exact lookup_zip_cons nd1 m0 y
/-- the __init__ of a fresh error at x -/
theorem init_ok {fI : Addr} {fs : List Str} {mg mb : Str → Option Value} {us : List Value} {t0 : Addr} {R : Result → Shared → Prop} (T : Txt prog K C fI fs) (X : K.In s.heap) (G : s.heap.Ns mainGlobals mg) (hsu : mg "super" = none) (B : s.heap.Ns builtinsNs mb) (hb : mb "super" = some (.type "super")) (hlim : s.heap.NoLimit)
    (hx : s.heap.get? x = some (excO C t0)) (hnx : K.lookup x = none) (hroom : A.depth < recursionLimit) (hus : us.length = fs.length) (hz : fs.length ≤ 800)
    (hq : ∀ h' tk d t1 mE nl, (∀ b o, b ≠ x → s.heap.get? b = some o → h'.get? b = some o) → ExAt h' x C t1 d mE nl → (∀ dx, d = some dx → s.heap.objs.size ≤ dx) → (∀ y, mE y = (fs.zip us).lookup y) → (fs ≠ [] → d ≠ none) → R (.ok (.ret .none)) { s with heap := h', toks := tk }) :
    codeAny (model prog w) A (.call (.ref fI) ⟨.ref x :: us, []⟩) R s := by
  obtain ⟨oc, od, qual, params, body, scope, dV, kV, doc, pm, an, cda, cc, ct, osl, cl, cld, csl, ccl, cdd, vs, ccs, file, tf, ar, hf, hcd, hbody, hcell, hcode, hvs, hfile, htop, hpar, hself, hk, hco, hgen, hnc, hsup, hcls, hloc, hnd, hdb, hbind, hsw, hev⟩ := T.fn
  obtain ⟨p0, p1, p2, p3, p4, p5, txt, j, ss, rfl, hst⟩ := hbody
  obtain ⟨nm, q, N, bs, bm, sn, sub, ab, col, dd, k0, k1, k2, k3, k5, hC, hbm⟩ := T.oex.cls
  have hcl : clsIn K C = some { name := nm, bases := bs, mro := .ref C :: bm, ns := N, qualname := q, hasDict := true, slotNames := sn, subclasses := sub, abstract := ab, collection := col, hasDel := false } := by unfold clsIn; rw [hC] <;> rfl
  refine ks_codeAny_call_defAt (fd := ksFn "__init__" qual params _ scope dV kV doc pm an (.ref cda) ct cc) (binds := (("self" : Str) :: fs).zip (.ref x :: us)) hroom (X _ _ hf) rfl hlim (codeRec_of X hcd) rfl (hbind s (.ref x :: us) (by simp [hus])) hnc (fun y hy => hloc y.1 (List.of_mem_zip hy).1) (fun h₁ hns hk₁ => ?_) hco hgen hk
  have kb : ∀ b o, s.heap.get? b = some o → h₁.get? b = some o := hk₁
  have X1 : K.In h₁ := X.keeps kb
  have hx1 := kb _ _ hx
  have Lx : s.heap.objs.size ≠ x := Nat.ne_of_gt (Heap.lt_size hx)
  have nd0 : ("self" : Str) ∉ fs := (List.nodup_cons.mp hnd).1
  have ndf : fs.Nodup := (List.nodup_cons.mp hnd).2
  -- the parameters' values
  have bnd : ∀ {l : List (Str × Value)} {y : Str} {v : Value}, (l.map (·.1)).Nodup → (y, v) ∈ l → l.reverse.lookup y = some v := by
    intro l y v hn hm
    have key : ∀ {l : List (Str × Value)}, (l.map (·.1)).Nodup → (y, v) ∈ l → l.lookup y = some v := by
      intro l
      induction l with
      | nil => intro _ hm; cases hm
      | cons a l ih =>
        intro hn hm
        obtain ⟨n, u⟩ := a
        rw [List.lookup_cons]
        rw [List.map_cons] at hn
        rcases List.mem_cons.mp hm with e | hm
        · cases e; simp
        · have : (y == n) = false := by
            have h1 := (List.nodup_cons.mp hn).1
            have h2 : y ∈ l.map (·.1) := List.mem_map_of_mem (f := Prod.fst) hm
            simpa using fun e : y = n => h1 (e ▸ h2)
          rw [this]
          exact ih (List.nodup_cons.mp hn).2 hm
    exact key (by rw [List.map_reverse]; exact List.pairwise_reverse.mpr (hn.imp fun h => h.symm)) (List.mem_reverse.mpr hm)
  have mapz : ((("self" : Str) :: fs).zip (Value.ref x :: us)).map (·.1) = ("self" : Str) :: fs := List.map_fst_zip (by simp [hus])
  have hms : ((("self" : Str) :: fs).zip (Value.ref x :: us)).reverse.lookup ("self" : Str) = some (Value.ref x) := bnd (by rw [mapz]; exact hnd) (by simp)
  have hmf : ∀ p ∈ fs.zip us, ((("self" : Str) :: fs).zip (Value.ref x :: us)).reverse.lookup p.1 = some p.2 := fun p hp => bnd (by rw [mapz]; exact hnd) (by simp [hp])
  obtain ⟨pl, he⟩ := hev _ rfl _ _ _ _ _ _ rfl (callEnv (ksFn "__init__" qual params (.Expr (.Call (.Attribute (.Call (.Name "super" p0) [] [] p1) "__init__" p2) [.Constant (.str txt) j p3] [] p4) p5 :: ss) scope dV kV doc pm an (.ref cda) ct cc) s.heap.objs.size fI)
  refine ks_wpAt_execs_cons (ks_wpAt_Expr_any (ks_wpAt_MethodCall (pl := pl) ?_ he) (by simp [interactive, callEnv, newEnv, hk]) (hsw _ rfl _ _ rfl _))
  -- super()
  have oD : ∃ oD, h₁.get? C = some oD ∧ ∃ cd, oD.data = .cls cd := ⟨_, X1 _ _ hC, _, rfl⟩
  obtain ⟨oD, hD1, cdD, hD2⟩ := oD
  refine ks_wpAt_super_base (f := fI) (cc := cda) hsup hcls rfl rfl (X1 _ _ hf) rfl hpar rfl (X1 _ _ hcode) rfl hvs hfile htop ?_
  refine ks_loadName_global hk hsup (loadGlobal_builtin (G.keeps kb) hsu (B.keeps kb) hb ⟨rfl, ?_⟩)
  refine wpAny_loadName_free hk hcls rfl ⟨_, X1 _ _ hcell, rfl⟩ ?_
  rw [hself]
  refine wpAny_loadName_local hk (hloc "self" List.mem_cons_self) hns hms ?_
  refine ks_wpAny_isType_cls hD1 hD2 ⟨rfl, ?_⟩
  refine ks_wpAny_call_super hD1 hD2 hx1 rfl (fun c e => by cases e) (looks_mroIn X1 T.sub) (fun h₂ e2 k2 => ?_)
  have X2 : K.In h₂ := X1.keeps k2
  have hx2 := k2 _ _ hx1
  have I2 : InstAt h₂ x (excO C t0) C none := ⟨hx2, rfl, rfl, trivial⟩
  have hI : Looks (model prog w) h₂ (isInstance (.ref x) (.type "ValueError")) true := I2.type.andThen (looks_subIn X2 T.sVE)
  have hsu2 := T.suI
  unfold ks_superIn at hsu2
  rw [hcl] at hsu2
  -- .__init__
  refine kxs_getMethod kxs_ValueError e2 (looks_opaque X2 T.opq) (l₀ := .ref C :: bm) (fun A Q E s k q => wpAny_bind ((looks_clsIn X2 hcl) A _ E s k (wpAny_pure q))) rfl X2 hsu2 hI (ks_ne X2 I2 hcl) rfl ?_
  -- the call
  refine kxs_callWith (i := "ValueError.__init__") (x := x) rfl (evalArgs_plain ?_)
  generalize hh3 : h₂.push (kxs_mw "ValueError.__init__" x) = h₃
  have k3 : ∀ b o, h₂.get? b = some o → h₃.get? b = some o := fun b o e => by rw [← hh3]; exact Heap.get?_push_of_some _ e
  have hu : h₃.get? h₂.objs.size = some (kxs_mw "ValueError.__init__" x) := by rw [← hh3]; exact Heap.get?_push_size _ rfl
  refine Calls.spliced_cons ?_
  show wpAny _ _ (eval (.Constant (.str txt) j p3) _) _ _ _
  refine Calls.Constant_str (Calls.spliced_nil ⟨hu, ?_⟩)
  have X3 : K.In h₃ := X2.keeps k3
  have hx3 := k3 _ _ hx2
  refine wpAny_call (codeAny_of_tree ?_)
  show wpAny _ _ (callAny (.ref h₂.objs.size) ⟨_, []⟩) _ _ _
  simp only [callAny]
  refine wpAny_bind (wpAny_load hu ?_)
  simp only [kxs_mw, show (Value.type "method-wrapper" == Value.type "method" || Value.type "method-wrapper" == Value.type "builtin_function_or_method" || Value.type "method-wrapper" == Value.type "method-wrapper") = true by decide, if_true]
  refine KFB.if_so (by decide) ?_
  refine wpAny_bind (check_bound_init F.excBase_ValueError.toExcCallFacts (X3 _ _ hC) hx3 rfl ?_)
  refine wpAny_bind (wpAny_pure (wpAny_pure ?_))
  refine ⟨plainId_quiet F.excBase_ValueError.init.plain _, codeAny_builtin F.excBase_ValueError.initEntry ?_⟩
  refine exc_init_tree (cls := .ref C) (t0 := t0) (dv := none) (c2 := .none) (c3 := .none) (b4 := .bool false) hx3 (by rw [sizeLine_eq]; simp) fun h₄ k4 e4 _ => ?_
  -- the stores
  have nx4 : ∀ b o, b ≠ x → h₁.get? b = some o → h₄.get? b = some o := fun b o h e => k4 b o h (k3 _ _ (k2 _ _ e))
  have X4 : K.In h₄ := fun b o e => nx4 b o (fun z => by rw [z, hnx] at e; cases e) (X1 b o e)
  have hn4 : h₄.Ns s.heap.objs.size (fun y => ((("self" : Str) :: fs).zip (Value.ref x :: us)).reverse.lookup y) := hns.at fun o e => nx4 _ o Lx e
  refine wpAt_of_wpAny ?_
  refine stores_ok (prog := prog) (w := w) (A := A.deeper (callEnv (ksFn "__init__" qual params (.Expr (.Call (.Attribute (.Call (.Name "super" p0) [] [] p1) "__init__" p2) [.Constant (.str txt) j p3] [] p4) p5 :: ss) scope dV kV doc pm an (.ref cda) ct cc) s.heap.objs.size fI))
    (env := callEnv (ksFn "__init__" qual params (.Expr (.Call (.Attribute (.Call (.Name "super" p0) [] [] p1) "__init__" p2) [.Constant (.str txt) j p3] [] p4) p5 :: ss) scope dV kV doc pm an (.ref cda) ct cc) s.heap.objs.size fI)
    (m := fun y => ((("self" : Str) :: fs).zip (Value.ref x :: us)).reverse.lookup y) (x := x) (t1 := h₃.objs.size) T.oex hst (L := s.heap.objs.size) hk rfl (hloc "self" List.mem_cons_self) (fun f hf => hloc f (List.mem_cons_of_mem _ hf)) hdb hms hnx Lx (d := none) (m0 := fun _ => none) (nl := []) ndf hus (by simpa using hz) hmf T.noN X4 hn4 ⟨e4, rfl, rfl⟩ (fun dx e => by cases e) fun h₅ tk d' mE nl' k5 ex hd' hm hne => ?_
  have fin := hq h₅ tk d' h₃.objs.size mE nl' (fun b o h e => k5 b o h (fun z => by cases z) (nx4 b o h (kb b o e))) ex (fun dx e => ?_) (fun y => by rw [hm y]; simp) hne
  · exact fin
  · rcases hd' with z | ⟨_, dx', z, hge⟩
    · rw [z] at e; cases e
    · rw [z] at e; cases e
      refine Nat.le_trans ?_ hge
      have : s.heap.objs.size < h₄.objs.size := hn4.lt
      exact Nat.le_of_lt this
end
end DErr
end PySem

set_option Elab.async false
set_option linter.all false
set_option maxRecDepth 100000
set_option maxHeartbeats 2000000
namespace PySem
namespace DErr
open PySem.W PySem.Calls PyProof.Rows PySem.HandSPX
section
variable {prog : Program} {w : World} {A : Around} {E : Value → Shared → Prop} {s : Shared} {K : Frag} {C : Addr} {R : Result → Shared → Prop}
theorem made_ok {fI : Addr} {fs : List Str} {mg mb : Str → Option Value} {us : List Value} (T : Txt prog K C fI fs) (X : K.In s.heap) (G : s.heap.Ns mainGlobals mg) (hsu : mg "super" = none) (B : s.heap.Ns builtinsNs mb) (hb : mb "super" = some (.type "super")) (hlim : s.heap.NoLimit)
    (hroom : A.depth + 1 < recursionLimit) (hus : us.length = fs.length) (hz : fs.length ≤ 800) (hne : fs ≠ [])
    (hq : ∀ h' tk e d t1 mE nl, (∀ b o, s.heap.get? b = some o → h'.get? b = some o) → s.heap.objs.size ≤ e → s.heap.objs.size ≤ d → ExAt h' e C t1 (some d) mE nl → (∀ y, mE y = (fs.zip us).lookup y) → R (.ok (.ret (.ref e))) { s with heap := h', toks := tk }) :
    codeAny (model prog w) A (.call (.ref C) ⟨us, []⟩) R s := by
  obtain ⟨nm, q, N, bs, bm, sn, sub, ab, col, dd, k0, k1, k2, k3, k5, hC, hbm⟩ := T.oex.cls
  obtain ⟨hp, g, dr, tk, os⟩ := s
  have k : ∀ b o, hp.get? b = some o → ((hp.push (kdv_tup us)).push (excO C hp.objs.size)).get? b = some o := fun b o e => Heap.get?_push_of_some _ (Heap.get?_push_of_some _ e)
  have hget : ((hp.push (kdv_tup us)).push (excO C hp.objs.size)).get? (hp.objs.size + 1) = some (excO C hp.objs.size) := by heap_get
  have hnx : K.lookup (hp.objs.size + 1) = none := by
    cases e : K.lookup (hp.objs.size + 1) with
    | none => rfl
    | some o =>
      have z : hp.get? (hp.objs.size + 1) = some o := X _ _ e
      exact absurd (Nat.lt_of_succ_lt (Heap.lt_size z)) (Nat.lt_irrefl _)
  refine call_own F.excBase_ValueError (fun X => refsVE_contains X bm hbm) (X _ _ hC) (looks_findIn X T.iC) (fun self => bind_fn X self T.tI) (by rw [hus, sizeLine_eq]; omega) ?_
  refine init_ok (s := ⟨(hp.push (kdv_tup us)).push (excO C hp.objs.size), g, dr, tk, os⟩) T (X.keeps k) (G.keeps k) hsu (B.keeps k) hb (hlim.keeps k) hget hnx ?_ hus hz fun h' tk' d t1 mE nl k' ex hd hm hd2 => ?_
  · show A.depth + 1 < recursionLimit
    exact hroom
  · have old : ∀ b o, hp.get? b = some o → h'.get? b = some o := fun b o e => k' b o (Nat.ne_of_lt (Nat.lt_succ_of_lt (Heap.lt_size e))) (k b o e)
    cases d with
    | none => exact absurd rfl (hd2 hne)
    | some d =>
      have z : hp.objs.size ≤ d := by
        have q := hd d rfl
        have q : ((hp.push (kdv_tup us)).push (excO C hp.objs.size)).objs.size ≤ d := q
        rw [Heap.size_push, Heap.size_push] at q
        exact Nat.le_trans (Nat.le_trans (Nat.le_succ _) (Nat.le_succ _)) q
      exact ⟨rfl, hq h' tk' (hp.objs.size + 1) d t1 mE nl old (Nat.le_succ _) z ex hm⟩
end
end DErr
end PySem
namespace DL
open PySem PySem.Spec PyProof.Rows L2
theorem relO_zip {f : Str} : ∀ {fs : List Str} {vs : List V} {us : List Value}, Vals vs us → RelO ((fs.zip vs).lookup f) ((fs.zip us).lookup f)
  | [], _, _, _ => True.intro
  | x :: fs, _, _, .nil => True.intro
  | x :: fs, _, _, .cons r t => by
    rw [List.zip_cons_cons, List.zip_cons_cons, List.lookup_cons, List.lookup_cons]
    cases f == x with
    | true => exact r
    | false => exact relO_zip t
section
variable {X : Cx} {Z : Ct} {k : Nat} {x : Str} {e : Expr} {es : List Expr} {p pos pos2 : Pos} {ψ : DEnv → List D → Res (List D)}
/-- C(e, ..), C an own error -/
def tMkE (C : Addr) (fs : List Str) (ta : TA) : L2.St → Hp → XK → Prop := fun σ H Q => ta σ H fun vs H1 => vs.length = fs.length ∧ ∀ d, H1 d = none → Q (.ref C) (some d) (upd H1 d (.xd (fs.zip vs)))
theorem pmk_err {C fI : Addr} {fs : List Str} {ta : TA} (T : PySem.DErr.Txt X.prog X.K C fI fs) (hne : fs ≠ []) (hz : fs.length ≤ 800) (hr : Room k X.A) (hk : 1 ≤ k) (hsu : X.mg "super" = none) (hm : X.mg x = some (.ref C)) (hg : Gl X x) (ha : PA X (e :: es) ta) (hdb : (x == ("__debug__" : Str)) = false)
    (he : starEach (e :: es) X.env = (false, eval e X.env) :: starEach es X.env) (hpl : (backTo pos (starEach es X.env)).any (·.1) = false) : PMk X (.Call (.Name x p) (e :: es) [] pos) (tMkE C fs ta) := by
  intro pins s σ H Q I h
  refine wpAny_Call_Name_kw (ld_glob I hg hm ?_ hdb)
  refine PySem.W.callWith_K (h₀ := X.base) I.ok.mod.kin T.oex.kC (thn (ha.run pos pins s σ H _ I h) fun us s1 hh => ?_) he hpl
  obtain ⟨vs, H1, I1, r1, hl, q1⟩ := hh
  refine ⟨I1.kIn, ?_⟩
  show wpAny _ _ (call (.ref C) us) _ _ _
  have hlim := I1.nolimit
  have G := I1.mod.glob.keeps I1.bk
  obtain ⟨mb, B, hmb⟩ := I1.mod.blt
  have B := B.keeps I1.bk
  have hb : mb "super" = some (.type "super") := (hmb _ (by decide +kernel)).trans (by decide +kernel)
  have hK := I1.kIn
  obtain ⟨hp, g, dr, tk, os⟩ := s1
  refine wpAny_call (PySem.DErr.made_ok T hK G hsu B hb hlim (by have := hr.dp; omega) (by rw [← r1.length]; exact hl) hz hne fun h' tk' e' d t1 mE nl hk he hd ex hmE => ?_)
  show MkP X pins σ Q (.ref e') ⟨h', g, dr, tk', os⟩
  obtain ⟨hoe, hns, _, _, dne⟩ := ex
  obtain ⟨G', g1, g2⟩ := restrict h' fun b => decide (b ≠ e')
  have gk : ∀ b, b ≠ e' → G'.get? b = h'.get? b := fun b hb => g1 b (decide_eq_true hb)
  have ge : G'.get? e' = none := g2 e' (by simp)
  have old : ∀ b o, hp.get? b = some o → G'.get? b = some o := fun b o q => (gk b (Nat.ne_of_lt (Nat.lt_of_lt_of_le (Heap.lt_size q) he))).trans (hk b o q)
  have ob : ObjOk X.prog X.w (upd H1 d (.xd (fs.zip vs))) G' d (.xd (fs.zip vs)) :=
    ⟨_, hns.at (fun o q => (gk d dne).trans q), fun f => by rw [hmE f]; exact relO_zip r1⟩
  have J : Inv X pins σ (upd H1 d (.xd (fs.zip vs))) ⟨G', g, dr, tk', os⟩ := I1.laid (t' := tk') old hd ob
  refine ⟨e', _, _, ⟨G', g, dr, tk', os⟩, _, .ref C, some d, rfl, J, fun b o q => ?_, ge, hoe, ⟨rfl, rfl⟩, rfl, rfl, ?_, rfl, I1.bare, raises_own T.oex.exC T.oex.tyC, q1 d (I1.hok.fresh hd)⟩
  · by_cases hb : b = e'
    · have q' : G'.get? b = some o := q
      rw [hb, ge] at q'; cases q'
    · exact (gk b hb).symm.trans q
  · rw [upd_ne (Ne.symm dne)]
    exact I1.hok.fresh he
def raiseS (c n : Nat) (ψ : DEnv → List D → Res (List D)) (env : DEnv) (st : List D) : SR := ofR (ψ env st) fun ds st1 => if ds.length = n then .exc c ds st1 else .bad
theorem ds_raise {c n : Nat} {fI : Addr} (o : Okc X Z k) (hk : 1 ≤ k) (T : PySem.DErr.Txt X.prog X.K (Z.Y.C c) fI (Z.Y.fl c)) (hn : (Z.Y.fl c).length = n) (h0 : n ≠ 0) (hz : n ≤ 800) (hsu : X.mg "super" = none) (hm : X.mg x = some (.ref (Z.Y.C c))) (hg : Gl X x) (ha : DA X Z (e :: es) ψ)
    (hdb : (x == ("__debug__" : Str)) = false) (he : starEach (e :: es) X.env = (false, eval e X.env) :: starEach es X.env) (hpl : (backTo pos (starEach es X.env)).any (·.1) = false) : DSt X Z (.Raise (some (.Call (.Name x p) (e :: es) [] pos)) none pos2) (raiseS c n ψ) := by
  obtain ⟨t, q, rd⟩ := ha
  refine ⟨_, ps_raise o.calm o.tk (pmk_err T (fun z => h0 (by rw [← hn, z]; rfl)) (by rw [hn]; exact hz) o.room hk hsu hm hg q hdb he hpl), fun G0 H0 σ H G env st E er en po => ?_⟩
  refine rd σ H G env st _ er (SPost.post er en po fun ds st1 vs G1 H1 _ x1 er1 en1 rv po1 => ?_)
  have rv : RpL Z.Y G1 ds vs := rv
  by_cases hl : ds.length = n
  · rw [if_pos hl] at po1
    refine ⟨by rw [← rv.length, hn]; exact hl, fun d hd => ?_⟩
    have e1 : Ext Z.Y.M G1 H1 (upd G1 d (.xd ((Z.Y.fl c).zip vs))) (upd H1 d (.xd ((Z.Y.fl c).zip vs))) := Ext.new er1.fz hd
    exact po1 _ _ σ _ _ e1.f (er1.row.monoN e1 hd) (en1.ext e1 er1.row.there) ⟨rfl, d, vs, rfl, upd_same, by rw [← rv.length, hn]; exact hl, RpL.mono e1.g rv⟩
  · rw [if_neg hl] at po1
    exact po1.elim
end
end DL

set_option Elab.async false
set_option linter.all false
set_option maxRecDepth 100000
namespace DL
open PySem PySem.Spec PyProof.Rows L2

/-! ### targets that write the heap: attributes of the instance that is made -/
section
variable (X : Cx) (Z : Ct)
def DGH (tg : Expr) (γ : D → DEnv → Option DEnv) : Prop :=
  ∃ g, PG X tg g ∧ ∀ G0 H0 v d σ H G env st env' (Q : L2.St → Hp → Prop), ER Z.Y Z.fc Z.Nw G env st σ H → En Z.Y.M Z.Nw G0 H0 G H → Rp Z.Y G d v → γ d env = some env' → (∀ σ' H', ER Z.Y Z.fc Z.Nw G env' st σ' H' → En Z.Y.M Z.Nw G0 H0 G H' → Q σ' H') → g v σ H Q
def DGHs (tgs : List Expr) (γ : List D → DEnv → Option DEnv) : Prop :=
  ∃ g, PGs X tgs g ∧ ∀ G0 H0 us ds σ H G env st env' (Q : L2.St → Hp → Prop), ER Z.Y Z.fc Z.Nw G env st σ H → En Z.Y.M Z.Nw G0 H0 G H → RpL Z.Y G ds us → γ ds env = some env' → (∀ σ' H', ER Z.Y Z.fc Z.Nw G env' st σ' H' → En Z.Y.M Z.Nw G0 H0 G H' → Q σ' H') → g us σ H Q
end
section
variable {X : Cx} {Z : Ct} {k : Nat} {e : Expr} {φ : DEnv → List D → Res D} {pos pos' p p2 : Pos}
theorem DG.h {tg : Expr} {vs : List Nat} {γ : D → DEnv → Option DEnv} (h : DG X Z tg vs γ) : DGH X Z tg γ := by
  obtain ⟨g, p, rd⟩ := h
  exact ⟨g, p, fun G0 H0 v d σ H G env st env' Q er en r e q => rd v d σ H G env st env' Q er r e fun σ' er' _ => q σ' H er' en⟩
theorem dghs_nil : DGHs X Z [] gNilD := ⟨_, pgs_nil, fun G0 H0 us ds σ H G env st env' Q er en r e q => by
    cases ds with
    | nil => cases e; exact ⟨r.nil_inv, q σ H er en⟩
    | cons d ds => cases e⟩
theorem dghs_cons {e : Expr} {es : List Expr} {γ : D → DEnv → Option DEnv} {δ : List D → DEnv → Option DEnv} (h : DGH X Z e γ) (t : DGHs X Z es δ) (hs : (assignEach (e :: es) X.env).map (·.2) = assign e X.env :: (assignEach es X.env).map (·.2)) : DGHs X Z (e :: es) (gConsD γ δ) := by
  obtain ⟨g, p, rd⟩ := h
  obtain ⟨u, p2, rd2⟩ := t
  refine ⟨_, pgs_cons p p2 hs, fun G0 H0 us ds σ H G env st env' Q er en r e q => ?_⟩
  cases ds with
  | nil => cases e
  | cons d ds =>
    obtain ⟨v, rr, rfl, rv, rt⟩ := r.cons_inv
    obtain ⟨env1, e1, e2⟩ := Option.bind_eq_some_iff.mp e
    refine ⟨v, rr, rfl, rd G0 H0 v d σ H G env st env1 _ er en rv e1 fun σ1 H1 er1 en1 => rd2 G0 H0 rr ds σ1 H1 G env1 st env' Q er1 en1 rt e2 q⟩
theorem dgh_tup {es : List Expr} {kk n : Nat} {δ : List D → DEnv → Option DEnv} (o : Okc X Z k) (h : DGHs X Z es δ) (hn : (assignEach es X.env).length = n) (hst : (assignEach es X.env).findIdx? (·.1) = none) : DGH X Z (.Tuple es kk pos) (gTupD n δ) := by
  obtain ⟨g, p, rd⟩ := h
  refine ⟨_, pg_tup o.calm p hn hst, fun G0 H0 v d σ H G env st env' Q er en r e q => ?_⟩
  unfold gTupD at e
  split at e
  · rename_i ds
    split at e
    · rename_i hl
      obtain ⟨a, us, rfl, h1, h2⟩ := tup_inv r
      refine ⟨a, us, rfl, ?_, by rw [← h2.length]; exact hl, rd G0 H0 us ds σ H G env st env' Q er en h2 e q⟩
      rw [← o.K]
      exact SqT.mono er.fz h1
    · cases e
  · cases e
theorem ds_asgH {tg : Expr} {γ : D → DEnv → Option DEnv} (he : DE X Z e φ) (hg : DGH X Z tg γ) (hs : swapsWithSole [tg] e pos.line X.env = pure false) (hw : swappedStores [tg] e X.env = pure none)
    (h1 : (assignEach [tg] X.env).map (·.2) = [assign tg X.env]) : DSt X Z (.Assign [tg] e pos) (asgS γ φ) := by
  obtain ⟨t, p, rd⟩ := he
  obtain ⟨g, pg, rg⟩ := hg
  refine ⟨_, ps_asg p pg hs hw h1, fun G0 H0 σ H G env st E er en po => rd σ H G env st _ er (SPost.post er en po fun d st1 v G1 H1 _ _ er1 en1 rv po1 => ?_)⟩
  cases hγ : γ d env with
  | none => simp only [hγ] at po1; exact po1.elim
  | some env1 =>
    simp only [hγ] at po1
    exact rg G0 H0 v d σ H1 G1 env st1 env1 _ er1 en1 rv hγ fun σ2 H2 er2 en2 => po1 σ2 G1 H2 er2 en2
/-- self.f = .. -/
def gFld (K : PySem.W.Frag) (to : TE) (f : Str) : TG := fun v σ H Q => to σ H fun x H1 => ∃ a C dx fs, x = .ref a ∧ H1 a = some (.ins C dx fs) ∧ Cls K C ∧ NoAttr K C f ∧ fs.length < 1000 ∧ Q σ (upd H1 a (.ins C dx (putF f v fs)))
theorem pg_fld {o : Expr} {f : Str} {to : TE} (ho : PE X o to) : PG X (.Attribute o f pos) (gFld X.K to f) := by
  refine ⟨fun pins s σ H v u Q I r h => ?_⟩
  rw [assign_Attribute]
  refine wpAny_bind (wpAny_holding (thn (ho.run pins s σ H _ I h) fun ov s1 ⟨x, H1, I1, r1, a, C, dx, fs, ex, ea, c, n, l, q⟩ => ?_))
  subst ex
  obtain rfl : ov = Value.ref a := r1
  refine wpAny_bind (wpAny_standAt (wpAny_bind (wpAny_holding (setattr_ok I1 ea c n l r fun s3 I3 => ?_))))
  exact wpAny_release ⟨σ, _, I3, q⟩
theorem putF_new {f : Str} {v : V} : ∀ {ks : List Str} {vs : List V}, f ∉ ks → vs.length = ks.length → putF f v (ks.zip vs) = (ks ++ [f]).zip (vs ++ [v])
  | [], [], _, _ => rfl
  | [], _ :: _, _, h => by simp at h
  | x :: ks, [], _, h => by simp at h
  | x :: ks, w :: vs, hf, h => by
    show (if x = f then _ else _) = _
    rw [if_neg (fun z => hf (by rw [z]; exact List.mem_cons_self))]
    show (x, w) :: putF f v (ks.zip vs) = _
    rw [putF_new (fun z => hf (List.mem_cons_of_mem _ z)) (by simpa using h)]
    rfl
def noSlf : Sl → Bool
  | .slf _ _ _ => false
  | _ => true
/-- what a store does to the slot i, of the class c -/
def gAttrD (i c : Nat) (f : Str) (d : D) (env : DEnv) : Option DEnv := match env[i]? with
  | some (.slf c' ks fs) => if c' = c ∧ f ∉ ks ∧ ks.length < 900 ∧ (env.set i .un).all noSlf = true then some (env.set i (.slf c' (ks ++ [f]) (fs ++ [d]))) else none
  | _ => none
theorem dgh_attr {i c : Nat} {x f : Str} (hN : X.N[i]? = some x) (hv : Vis X.env.scope x) (hdb : (x == ("__debug__" : Str)) = false) (hcd : (x == ("__classdict__" : Str)) = false) (hc : Cls X.K (Z.Y.C c)) (hna : NoAttr X.K (Z.Y.C c) f) : DGH X Z (.Attribute (.Name x p) f pos) (gAttrD i c f) := by
  refine ⟨_, pg_fld (pe_var hN hv hdb hcd), fun G0 H0 v d σ H G env st env' Q er en r e q => ?_⟩
  unfold gAttrD at e
  split at e
  · rename_i c' ks fs he
    split at e
    · rename_i hcond
      obtain ⟨rfl, hf, hk, hall⟩ := hcond
      cases e
      obtain ⟨x', a1, a2, a3, a4, a5, dx, vs, a6, a7, a8⟩ := er.sl i _ he
      subst a2
      have hi : i < env.length := (List.getElem?_eq_some_iff.mp he).1
      refine ⟨.ref Z.fc, a1, Z.fc, Z.Y.C c', dx, _, rfl, a6, hc, hna, ?_, ?_⟩
      · rw [List.length_zip]; omega
      · rw [putF_new hf a7]
        have nc : ∀ c q, H Z.fc ≠ some (LamX.CodeO c q) := fun c q z => by rw [a6] at z; exact codeO_ins (Option.some.inj z).symm
        refine q σ _ ⟨fun b o h => by rw [upd_ne (fun z => by rw [z, a3] at h; cases h)]; exact er.fz b o h, fun j s hs => ?_, fun j l o1 u hj hl n => ?_, er.row.write a4 nc⟩ (en.updA a5)
        · by_cases ej : i = j
          · subst ej
            rw [List.getElem?_set_self hi] at hs
            cases hs
            exact ⟨_, a1, rfl, a3, a4, a5, dx, vs ++ [v], upd_same, by simp [a7], a8.append (RpL.cons r RpL.nil)⟩
          · rw [List.getElem?_set_ne ej] at hs
            obtain ⟨y, b1, b2⟩ := er.sl j s hs
            refine ⟨y, b1, ?_⟩
            cases s with
            | un => trivial
            | val d => exact b2
            | slf c1 ks1 fs1 =>
              have hm : Sl.slf c1 ks1 fs1 ∈ env.set i .un := List.mem_of_getElem? (by rw [List.getElem?_set_ne ej]; exact hs)
              have := List.all_eq_true.mp hall _ hm
              cases this
            | own o =>
              obtain ⟨b, c1, c2, c3, c4, c5⟩ := b2
              refine ⟨b, c1, c2, c3, c4, ?_⟩
              have nb : b ≠ Z.fc := fun z => by
                cases o with
                | lst ds => obtain ⟨us, d1, _⟩ := c5; rw [z, a6] at d1; cases d1
                | dct ks ws => obtain ⟨o, us, ws', d0, d1, _⟩ := c5; rw [z, a6] at d0; exact Z.Y.dni _ _ _ _ d1 _ _ _ (Option.some.inj d0).symm
              cases o with
              | lst ds => obtain ⟨us, d1, d2⟩ := c5; exact ⟨us, by rw [upd_ne nb]; exact d1, d2⟩
              | dct ks ws => obtain ⟨o, us, ws', d0, d1, d2, d3⟩ := c5; exact ⟨o, us, ws', by rw [upd_ne nb]; exact d0, d1, d2, d3⟩
        · have f : ∀ {j : Nat} {o1 : Own}, (env.set i (.slf c' (ks ++ [f]) (fs ++ [d])))[j]? = some (.own o1) → env[j]? = some (.own o1) := fun {j o1} h => by
            by_cases ej : i = j
            · subst ej; rw [List.getElem?_set_self hi] at h; cases h
            · rwa [List.getElem?_set_ne ej] at h
          exact er.dis j l o1 u (f hj) (f hl) n
    · cases e
  · cases e
end
/-! ### an __init__ keeps its promise -/
section
variable {P : Program} {w : World} {K : PySem.W.Frag} {mg : Str → Option Value} {base : Heap} {x qual : Str} {params : Arguments} {body : List Stmt} {scope : Scope} {f : Addr} {fd : FuncData}
abbrev zOfI (Y : Lay) (ρ x : Addr) (H : Hp) (E : XK) : Ct := { Y := { Y with ρ := ρ }, W := fun cls d _ H => E cls d H, fc := x, Nw := fun a => H a = none ∨ a = x }
def initEnd (c : Nat) (fl : List Str) (env : DEnv) (st : List D) : Res (List D) := match env[(0 : Nat)]? with
  | some (.slf c' ks fs) => if c' = c ∧ ks = fl then .ok fs st else .bad
  | _ => .bad
/-- what an __init__ of n parameters (self among them) and m names computes -/
def initD (c : Nat) (fl : List Str) (n m : Nat) (φ : DEnv → List D → SR) (ds st : List D) : Res (List D) :=
  if ds.length + 1 = n then
    match φ (Sl.slf c [] [] :: (ds.map Sl.val ++ List.replicate (m - n) Sl.un)) st with
    | .nx env st' => initEnd c fl env st'
    | .rt _ _ _ => .bad
    | .exc e fs st' => .exc e fs st'
    | .bad => .bad
  else .bad
theorem mkc_of {kws : List (Str × V)} {N ps : List Str} {Y : Lay} {k c : Nat} {φ : DEnv → List D → SR} (hK : Y.K = K) (M : Mk K (Y.C c) f) (F : FunD K x qual params body scope [] kws f fd) (S : FnScope N ps scope) (hb : Binds K fd ps []) (hN : ps.length ≤ N.length)
    (h : ∀ (ρ y : Addr) (cdv : Value) (A : Around) (outer : List Env) (s : Shared) (H : Hp) (E : XK), Oks (cxOf (L2.CX P w) P w K mg base N qual scope f cdv A outer s H E) (zOfI Y ρ y H E) k → DSs (cxOf (L2.CX P w) P w K mg base N qual scope f cdv A outer s H E) (zOfI Y ρ y H E) body φ) :
    MkC P w K mg base (k + 1) Y c (initD c (Y.fl c) ps.length N.length φ) := by
  refine ⟨f, fd, ps, M, fng_of F S (fun vs H Q E hs => ?_) (fun cdv A outer s H vs Q E hr hG hs => ?_), hb⟩
  · obtain ⟨ρ, G, st, ds, x, dx, us, rfl, r, fz, row, h1, h2, n1, n2, g1, g2, po⟩ := hs
    by_cases hl : ds.length + 1 = ps.length
    · rw [List.length_cons, ← r.length]; exact hl
    · rw [initD, if_neg hl] at po
      exact po.elim
  · obtain ⟨ρ, G, st, ds, x, dx, us, rfl, r, fz, row, h1, h2, n1, n2, g1, g2, po⟩ := hs
    by_cases hl : ds.length + 1 = ps.length
    · rw [initD, if_pos hl] at po
      have ok : Oks (cxOf (L2.CX P w) P w K mg base N qual scope f cdv A outer s H E) (zOfI Y ρ x H E) k := by
        have o := oks_of (Y := Y) (ρ := ρ) (P := P) (w := w) (mg := mg) (base := base) (N := N) (H := H) (E := E) (outer := outer) hK S.nd hr hG
        exact ⟨⟨o.K, o.tk, o.room, o.calm, o.nd, o.gd⟩, o.po⟩
      obtain ⟨t, pt, rd⟩ := h ρ x cdv A outer s H E ok
      have hlv := r.length
      have er0 : ER (zOfI Y ρ x H E).Y (zOfI Y ρ x H E).fc (zOfI Y ρ x H E).Nw G (Sl.slf c [] [] :: (ds.map Sl.val ++ List.replicate (N.length - ps.length) Sl.un)) st (L2.start N (.ref x :: us)) H := by
        have er1 := start_er (Y := { Y with ρ := ρ }) (fc := x) (Nw := fun a => H a = none ∨ a = x) (N := N) (ds := Sl.val (.bl true) :: [] |>.map (fun _ => D.bl true) |>.append ds) (vs := V.bl true :: us) (n := ps.length) fz row (RpL.cons (rp_bl true) r) (by simpa using hl) hN
        have eσ : L2.start N (.ref x :: us) = (L2.start N (V.bl true :: us)).set 0 (some (.ref x)) := by unfold L2.start; simp
        have eE : (Sl.slf c [] [] :: (ds.map Sl.val ++ List.replicate (N.length - ps.length) Sl.un)) = ((([Sl.val (.bl true)] |>.map (fun _ => D.bl true) |>.append ds).map Sl.val ++ List.replicate (N.length - ps.length) Sl.un)).set 0 (Sl.slf c [] []) := by simp
        rw [eσ, eE]
        refine ⟨er1.fz, fun j s hs => ?_, fun j l o u hj hl n => ?_, er1.row⟩
        · by_cases e : 0 = j
          · subst e
            simp at hs
            subst hs
            refine ⟨some (.ref x), by unfold L2.start; simp, rfl, g1, n1, .inr rfl, dx, [], h1, rfl, RpL.nil⟩
          · rw [List.getElem?_set_ne e] at hs ⊢
            exact er1.sl j s hs
        · have ff : ∀ {j : Nat} {o : Own}, (((([Sl.val (.bl true)] |>.map (fun _ => D.bl true) |>.append ds).map Sl.val ++ List.replicate (N.length - ps.length) Sl.un)).set 0 (Sl.slf c [] []))[j]? = some (.own o) → 0 ≠ j ∧ ((([Sl.val (.bl true)] |>.map (fun _ => D.bl true) |>.append ds).map Sl.val ++ List.replicate (N.length - ps.length) Sl.un))[j]? = some (.own o) := fun {j o} h => by
            by_cases e : 0 = j
            · subst e; simp at h
            · exact ⟨e, by rwa [List.getElem?_set_ne e] at h⟩
          obtain ⟨n1, e1⟩ := ff hj
          obtain ⟨n2, e2⟩ := ff hl
          rw [List.getElem?_set_ne n1, List.getElem?_set_ne n2]
          exact er1.dis j l o u e1 e2 n
      have en0 : En (zOfI Y ρ x H E).Y.M (zOfI Y ρ x H E).Nw G H G H := ⟨fun _ h => .inl h, fun _ _ h => h, fun _ _ h _ _ => h, fun _ _ h => .inl h⟩
      have outE : ∀ {G1 H1 : Hp}, En (zOfI Y ρ x H E).Y.M (zOfI Y ρ x H E).Nw G H G1 H1 → G1 x = none → (∀ a o, H a = some o → ¬ ({ Y with ρ := ρ } : Lay).M a → a ≠ x → H1 a = some o) ∧ ∀ a o, G1 a = some o → G a = some o ∨ H a = none := fun {G1 H1} en hx => by
        refine ⟨fun a o h m n => en.h a o h m (fun z => ?_), fun a o h => ?_⟩
        · rcases z with z | z
          · rw [h] at z; cases z
          · exact n z
        · rcases en.n a o h with z | z | z
          · exact .inl z
          · exact .inr z
          · rw [z, hx] at h; cases h
      refine ⟨t, pt, rd G H _ H G _ st _ er0 en0 ?_⟩
      generalize hq : φ (Sl.slf c [] [] :: (ds.map Sl.val ++ List.replicate (N.length - ps.length) Sl.un)) st = q at po ⊢
      cases q with
      | nx env1 st1 =>
        intro σ1 G1 H1 er en
        unfold initEnd at po
        cases he : env1[0]? with
        | none => simp only [he] at po; exact po.elim
        | some sl =>
          cases sl with
          | slf c' ks fs =>
            simp only [he] at po
            by_cases hc : c' = c ∧ ks = Y.fl c
            · rw [if_pos hc] at po
              obtain ⟨rfl, rfl⟩ := hc
              obtain ⟨x', b1, b2, b3, b4, b5, dx', vs, b6, b7, b8⟩ := er.sl 0 _ he
              obtain ⟨o1, o2⟩ := outE en b3
              exact po dx' vs G1 H1 en.g er.fz o1 o2 b6 b7 b8 er.row
            · rw [if_neg hc] at po
              exact po.elim
          | _ => simp only [he] at po; exact po.elim
      | rt d env1 st1 => exact po.elim
      | exc e fs st1 =>
        intro cls dd σ1 G1 H1 f1 row1 en ex
        refine po cls dd G1 H1 en.g f1 (fun a o h m n => en.h a o h m (fun z => ?_)) (fun a o h => ?_) row1 ex
        · rcases z with z | z
          · rw [h] at z; cases z
          · exact n z
        · rcases en.n a o h with z | z | z
          · exact .inl z
          · exact .inr (.inl z)
          · exact .inr (.inr z)
      | bad => exact po
    · rw [initD, if_neg hl] at po
      exact po.elim
end
end DL

set_option Elab.async false
set_option linter.all false
set_option maxRecDepth 100000
namespace DL
open PySem PySem.Spec PyProof.Rows L2

section
variable {X : Cx} {Z : Ct} {k : Nat} {a b : Expr} {φ ψ : DEnv → List D → Res D} {pos p p2 apos : Pos}
/-! ### isinstance(x, C), C a class of the text -/
/-- what is asked of a class whose instances are asked -/
structure InsOk (K : PySem.W.Frag) (C : Addr) : Prop where
  cls : Cls K C
  ha : PySem.W.findIn K (.ref C) "__class__" = some (some (.builtin "object.__class__"))
  hn : PySem.W.specialIn K (.builtin "object.__class__") "__get__" = some (some (.builtin "getset_descriptor.__get__"))
  htk : PySem.W.takesIn K (.builtin "object.__class__") = some true
  hm : PySem.W.mroIn K C (.type "object") = some true
theorem vw_obj {Y : Lay} {G H : Hp} {c : Nat} {fs : List D} {v : V} (h : Vw Y G H (.obj c fs) v) : Rp Y G (.obj c fs) v := by
  rcases h with h | ⟨_, _, _, z, _⟩ | ⟨_, _, _, _, _, _, z, _⟩
  · exact h
  · cases z
  · cases z
def isC (cs : List Nat) (c : Nat) (d : D) : Option Bool := match d with
  | .obj c' _ => if c' ∈ cs then some (decide (c' = c)) else none
  | d => if (kindD d).isSome = true then some false else none
theorem de_isC {cs : List Nat} {c : Nat} {x y : Str} (hK : Z.Y.K = X.K) (hx : x = "isinstance") (hg : Gl X x) (hm : X.mg x = none) (hg2 : Gl X y) (hm2 : X.mg y = some (.ref (Z.Y.C c))) (hdb2 : (y == ("__debug__" : Str)) = false)
    (hk : ∀ k ∈ ["NoneType", "bool", "int", "str", "tuple", "list"], PySem.W.kitOne X.K (.type k) (.ref (Z.Y.C c)) = some false)
    (hc : ∀ c' ∈ cs, InsOk X.K (Z.Y.C c') ∧ PySem.W.kitOne X.K (.ref (Z.Y.C c')) (.ref (Z.Y.C c)) = some (decide (c' = c)))
    (ha : DS X Z a φ) (hs : starEach [a, .Name y p2] X.env = [(false, eval a X.env), (false, eval (.Name y p2) X.env)]) :
    DE X Z (.Call (.Name x p) [a, .Name y p2] [] pos) (isE (isC cs c) φ) := by
  subst hx
  obtain ⟨t, q, rd⟩ := ha
  have hb : PE X (.Name y p2) (tC (.ref (Z.Y.C c))) := pe_glob hg2 hm2 rfl hdb2
  refine ⟨_, pe_callB call_isi hg hm boot_isinstance (pa_cons q (pa_cons hb pa_nil) hs) (by decide) (by decide) hs rfl, fun σ H G env st Q er po => ?_⟩
  refine rd σ H G env st _ er (Post.bind po fun d st1 v G1 H1 e x row rv po1 => ?_)
  cases hi : isC cs c d with
  | none => rw [hi] at po1; exact po1.elim
  | some r =>
    rw [hi] at po1
    have fin : ∀ t, TyX X.K H1 v t → PySem.W.kitOne X.K t (.ref (Z.Y.C c)) = some r → rIsi X.K [v, .ref (Z.Y.C c)] H1 Q := fun t ty ki =>
      ⟨v, .ref (Z.Y.C c), t, .ref (Z.Y.C c), r, rfl, ClsV.own _, ty, ki, Post.here (R := rV Z.Y) po1 x.f row (rp_bl r)⟩
    have kinds : ∀ {k : String}, kindD d = some k → k ∈ ["NoneType", "bool", "int", "str", "tuple", "list"] → isC cs c d = some false → rIsi X.K [v, .ref (Z.Y.C c)] H1 Q := fun {k} h1 h2 h3 => by
      rw [h3] at hi
      cases hi
      have ty := kind_ty x.f rv h1
      rw [hK] at ty
      exact fin _ ty (hk k h2)
    cases d with
    | obj c' fs =>
      unfold isC at hi
      dsimp only at hi
      split at hi
      · rename_i hmem
        cases hi
        obtain ⟨I, ki⟩ := hc c' hmem
        obtain ⟨a0, dx, vs, rfl, a1, a2, a3⟩ := obj_inv (vw_obj rv)
        exact fin _ (TyX.base (TyOf.ins (x.f _ _ a1) I.cls I.ha I.hn I.htk I.hm)) ki
      · cases hi
    | non => exact kinds rfl (by simp) rfl
    | bl b => exact kinds rfl (by simp) rfl
    | int b => exact kinds rfl (by simp) rfl
    | str b => exact kinds rfl (by simp) rfl
    | tup b => exact kinds rfl (by simp) rfl
    | lst b => exact kinds rfl (by simp) rfl
    | _ => unfold isC kindD at hi; simp at hi

/-! ### -x -/
def negE (φ : DEnv → List D → Res D) (env : DEnv) (st : List D) : Res D := (φ env st).bind fun d st1 => match d with
  | .int i => .ok (.int (-i)) st1
  | _ => .bad
theorem de_neg (h : DE X Z a φ) : DE X Z (.UnaryOp .USub a pos) (negE φ) := by
  obtain ⟨t, q, rd⟩ := h
  refine ⟨_, pe_un un_neg q, fun σ H G env st Q er po => rd σ H G env st _ er (Post.bind po fun d st1 v G1 H1 e x row rv po1 => ?_)⟩
  cases d with
  | int i => exact ⟨i, int_inv rv, Post.here (R := rV Z.Y) po1 x.f row (rp_int _)⟩
  | _ => exact po1.elim

/-! ### min(a, b), max(a, b) -/
def oMin2 (d e : D) : Option D := match d, e with
  | .int i, .int j => some (.int (if j < i then j else i))
  | _, _ => none
def oMax2 (d e : D) : Option D := match d, e with
  | .int i, .int j => some (.int (if j > i then j else i))
  | _, _ => none
theorem de_two {x : Str} {id : String} {r : List V → Hp → VK → Prop} {f : D → D → Option D} (hc : CallR X (.builtin id) r) (hf : ∀ i j d (H : Hp) Q, f (.int i) (.int j) = some d → (∀ n, d = .int n → Q (V.int n) H) → r [.int i, .int j] H Q) (hd : ∀ d e u, f d e = some u → ∃ i j n, d = .int i ∧ e = .int j ∧ u = .int n)
    (hg : Gl X x) (hm : X.mg x = none) (hv : bootBuiltins x = some (.builtin id)) (hn : x ≠ "__name__") (hdb : (x == ("__debug__" : Str)) = false) (ha : DE X Z a φ) (hb : DE X Z b ψ) (hs : starEach [a, b] X.env = (false, eval a X.env) :: starEach [b] X.env) (hs2 : starEach [b] X.env = [(false, eval b X.env)])
    (hpl : (backTo pos (starEach [b] X.env)).any (·.1) = false) : DE X Z (.Call (.Name x p) [a, b] [] pos) (opE f φ ψ) := by
  obtain ⟨t, q, rd⟩ := ha
  obtain ⟨t2, q2, rd2⟩ := hb
  refine ⟨_, pe_callB hc hg hm hv (pa_cons q (pa_cons q2 pa_nil hs2) hs) hn hdb hs hpl, fun σ H G env st Q er po => ?_⟩
  refine rd σ H G env st _ er (Post.bind po fun d st1 v G1 H1 e x row rv po1 => ?_)
  refine rd2 σ H1 G1 env st1 _ (er.ext x row) (Post.bind po1 fun d2 st2 v2 G2 H2 e2 x2 row2 rv2 po2 => ?_)
  cases ho : f d d2 with
  | none => rw [ho] at po2; exact po2.elim
  | some u =>
    rw [ho] at po2
    obtain ⟨i, j, n, rfl, rfl, rfl⟩ := hd d d2 u ho
    rw [int_inv rv, int_inv rv2]
    exact hf i j _ H2 Q ho fun m hm => by
      cases hm
      exact Post.here (R := rV Z.Y) po2 x2.f row2 (rp_int _)
theorem de_min2 {x : Str} (o : Okc X Z k) (hx : x = "min") (hg : Gl X x) (hm : X.mg x = none) (ha : DE X Z a φ) (hb : DE X Z b ψ) (hs : starEach [a, b] X.env = (false, eval a X.env) :: starEach [b] X.env) (hs2 : starEach [b] X.env = [(false, eval b X.env)])
    (hpl : (backTo pos (starEach [b] X.env)).any (·.1) = false) : DE X Z (.Call (.Name x p) [a, b] [] pos) (opE oMin2 φ ψ) := by
  subst hx
  refine de_two (call_min2 o.calm) (fun i j d H Q h q => ⟨i, j, rfl, q _ (by cases h; rfl)⟩) (fun d e u h => ?_) hg hm (by decide +kernel) (by decide +kernel) (by decide +kernel) ha hb hs hs2 hpl
  cases d <;> cases e <;> first | (cases h; exact ⟨_, _, _, rfl, rfl, rfl⟩) | cases h
theorem de_max2 {x : Str} (o : Okc X Z k) (hx : x = "max") (hg : Gl X x) (hm : X.mg x = none) (ha : DE X Z a φ) (hb : DE X Z b ψ) (hs : starEach [a, b] X.env = (false, eval a X.env) :: starEach [b] X.env) (hs2 : starEach [b] X.env = [(false, eval b X.env)])
    (hpl : (backTo pos (starEach [b] X.env)).any (·.1) = false) : DE X Z (.Call (.Name x p) [a, b] [] pos) (opE oMax2 φ ψ) := by
  subst hx
  refine de_two (call_max2 o.calm) (fun i j d H Q h q => ⟨i, j, rfl, q _ (by cases h; rfl)⟩) (fun d e u h => ?_) hg hm (by decide +kernel) (by decide +kernel) (by decide +kernel) ha hb hs hs2 hpl
  cases d <;> cases e <;> first | (cases h; exact ⟨_, _, _, rfl, rfl, rfl⟩) | cases h

/-! ### repr of lists and tuples of plain data -/
def reprD (d : D) : List Nat := (toPy DP d).shown.cps.toList
def oRepr (_ : List D) (d : D) : Option D := match d with
  | .lst _ => if (okD DP d && (toPy DP d).showable && decide ((toPy DP d).shown.length ≤ SZ)) = true then some (.str (reprD d)) else none
  | .tup _ => if (okD DP d && (toPy DP d).showable && decide ((toPy DP d).shown.length ≤ SZ)) = true then some (.str (reprD d)) else none
  | _ => none
def rReprA (K : PySem.W.Frag) : List V → Hp → VK → Prop := fun xs H Q => ∃ a d, xs = [.ref a] ∧ Dp K H (.ref a) d ∧ SeqAt.shaped d = true ∧ d.showable = true ∧ d.shown.length ≤ SZ ∧ Q (.str d.shown) H
theorem cr_reprA (hg : X.A.guards = some []) (hu : X.A.units + 66 < cLine) : CallR X (.builtin "repr") (rReprA X.K) := by
  intro pins s σ H xs us Q I r h
  obtain ⟨a, d, rfl, hd, hs, hsh, hl, q⟩ := h
  obtain ⟨u, rfl, ru⟩ := vals1 r
  obtain rfl : u = Value.ref a := ru
  obtain ⟨as, r1⟩ := Dp.reads I d (.ref a) _ hd rfl
  refine repr_of_reads' r1 hsh (PyData.noDict_hsm (PyData.hasDict_of_canLay d (SeqAt.canLay_of_shaped hs))) hg ?_ (fun _ _ e => e) (fun h' u tk hk => ⟨.str d.shown, H, I.kept (t' := tk) hk, ⟨_, rfl⟩, q⟩) (by rw [sizeLine_eq]; exact hl)
  have := SeqAt.depth_of_shaped hs
  omega
theorem S_toList (x : Str) : S x.cps.toList = x := by
  cases x; simp [S]
theorem b1_repr : B1 Z (rReprA Z.Y.K) oRepr := by
  intro x d u G H σ st Q fz row rx h po
  have main : okD DP d = true → (toPy DP d).showable = true → (toPy DP d).shown.length ≤ SZ → (∃ a, x = .ref a) → u = .str (reprD d) → rReprA Z.Y.K [x] H Q := fun h1 h2 h3 ⟨a, ha⟩ hu => by
    subst hu ha
    refine ⟨a, toPy DP d, rfl, vw_dp rx fz h1, shaped_D (by decide) h1, h2, h3, ?_⟩
    have := Post.here (R := rV Z.Y) po fz row (rp_str _)
    rwa [reprD, S_toList] at this
  unfold oRepr at h
  split at h
  · split at h
    · rename_i hc
      simp only [Bool.and_eq_true, decide_eq_true_eq] at hc
      obtain ⟨a, vs, e, _⟩ := vw_lst fz rx
      exact main hc.1.1 hc.1.2 hc.2 ⟨a, e⟩ (Option.some.inj h).symm
    · cases h
  · split at h
    · rename_i hc
      simp only [Bool.and_eq_true, decide_eq_true_eq] at hc
      obtain ⟨a, vs, e, _⟩ := vw_tup rx
      exact main hc.1.1 hc.1.2 hc.2 ⟨a, e⟩ (Option.some.inj h).symm
    · cases h
  · cases h

/-! ### t.index(s), a tuple of texts that is written -/
def strsOf : List D → Option (List (List Nat))
  | [] => some []
  | .str l :: ds => (strsOf ds).map (l :: ·)
  | _ :: _ => none
theorem strs_rp {Y : Lay} {G : Hp} : ∀ {ds : List D} {vs : List V} {ls : List (List Nat)}, RpL Y G ds vs → strsOf ds = some ls → vs = (ls.map S).map V.str
  | [], _, _, h, e => by rw [h.nil_inv]; cases e; rfl
  | .str l :: ds, _, ls, h, e => by
    obtain ⟨v, r, rfl, hv, t⟩ := h.cons_inv
    unfold strsOf at e
    obtain ⟨ls', e1, rfl⟩ := Option.map_eq_some_iff.mp e
    rw [str_inv hv, strs_rp t e1]
    rfl
  | .non :: _, _, _, _, e => by cases e
  | .bl _ :: _, _, _, _, e => by cases e
  | .int _ :: _, _, _, _, e => by cases e
  | .tup _ :: _, _, _, _, e => by cases e
  | .lst _ :: _, _, _, _, e => by cases e
  | .dct _ _ :: _, _, _, _, e => by cases e
  | .obj _ _ :: _, _, _, _, e => by cases e
  | .fn _ :: _, _, _, _, e => by cases e
  | .row :: _, _, _, _, e => by cases e
  | .scr _ :: _, _, _, _, e => by cases e
  | .kon _ :: _, _, _, _, e => by cases e
  | .exn _ _ :: _, _, _, _, e => by cases e
  | .exo _ _ :: _, _, _, _, e => by cases e
def oIndex (d e : D) : Option D := match d, e with
  | .kon ds, .str z => (strsOf ds).bind fun ls => if ls.idxOf z < ls.length then some (.int ((ls.idxOf z : Nat) : Int)) else none
  | _, _ => none
theorem S_inj {a b : List Nat} (h : S a = S b) : a = b := by
  have := congrArg (fun z : Str => z.cps.toList) h
  simpa using this
/-- x.index(e), x a tuple of texts of the written part -/
def indexE (φ ψ : DEnv → List D → Res D) (env : DEnv) (st : List D) : Res D := (φ env st).bind fun d st1 => match d with
  | .kon ds => (ψ env st1).bind fun e st2 => ofO (oIndex (.kon ds) e) st2
  | _ => .bad
theorem de_index {m : Str} {cpos : Pos} (hK : Z.Y.K = X.K) (hm : m = "index") (ha : DE X Z a φ) (hb : DE X Z b ψ) (M : McOk X a m b apos cpos) : DE X Z (.Call (.Attribute a m apos) [b] [] cpos) (indexE φ ψ) := by
  subst hm
  obtain ⟨t, q, rd⟩ := ha
  obtain ⟨t2, q2, rd2⟩ := hb
  refine ⟨_, pe_bm (T := "tuple") (id := "tuple.index") PySem.F.plainAttrs_tuple PySem.F.slot_tuple_index PySem.F.type_tuple_index mt_tup_index q (pa_cons q2 pa_nil M.star) M.base M.few M.line M.star M.plain, fun σ H G env st Q er po => ?_⟩
  refine rd σ H G env st _ er (Post.bind po fun d st1 v G1 H1 e x row rv po1 => ?_)
  cases d with
  | kon ds =>
    obtain ⟨a0, vs, rfl, h1, ⟨o, h2, h3, h4⟩, h5⟩ := kon_inv rv
    rw [hK] at h2
    refine ⟨.inr (.inl ⟨rfl, o, h2, h3, h4⟩), rd2 σ H1 G1 env st1 _ (er.ext x row) (Post.bind po1 fun d2 st2 v2 G2 H2 e2 x2 row2 rv2 po2 => ?_)⟩
    cases d2 with
    | str z =>
      unfold oIndex at po2
      dsimp only at po2
      cases hs : strsOf ds with
      | none => rw [hs] at po2; exact po2.elim
      | some ls =>
        rw [hs] at po2
        simp only [Option.bind_some] at po2
        by_cases hi : ls.idxOf z < ls.length
        · rw [if_pos hi] at po2
          have ev := strs_rp h5 hs
          subst ev
          have hget : (ls.map S)[ls.idxOf z]? = some (S z) := by
            rw [List.getElem?_map, List.getElem?_eq_getElem hi, List.getElem_idxOf]
            rfl
          refine ⟨a0, ls.map S, S z, ls.idxOf z, rfl, by rw [str_inv rv2], ?_, hget, fun mm hmm hx => ?_, Post.here (R := rV Z.Y) po2 x2.f row2 (rp_int _)⟩
          · rw [← hK]
            exact SqT.mono x2.f (SqT.mono x2.g h1)
          · rw [List.getElem?_map] at hx
            cases hl : ls[mm]? with
            | none => rw [hl] at hx; cases hx
            | some y =>
              rw [hl] at hx
              have ey : y = z := S_inj (Option.some.inj hx)
              subst ey
              have hlt : mm < ls.length := (List.getElem?_eq_some_iff.mp hl).1
              have := List.not_of_lt_findIdx (p := (· == y)) (xs := ls) (i := mm) hmm
              rw [List.getElem?_eq_getElem hlt] at hl
              cases hl
              simp at this
        · rw [if_neg hi] at po2
          exact po2.elim
    | _ => exact po2.elim
  | _ => exact po1.elim
/-- a tuple of texts of the written part, by its name -/
theorem de_kon {x : Str} {v : Addr} {ds : List D} (hK : Z.Y.K = X.K) (hg : Gl X x) (hm : X.mg x = some (.ref v)) (hd : (x == ("__debug__" : Str)) = false) {vs : List V} (h1 : ∀ H, SqT X.K H v vs) (h2 : ∃ o, X.K.lookup v = some o ∧ o.cls = .type "tuple" ∧ o.dict = none) (h3 : ∀ G, RpL Z.Y G ds vs) : DE X Z (.Name x pos) (lit (.kon ds)) :=
  de_glob (v := V.ref v) hg hm rfl hd fun G => by
    rw [Rp]
    exact ⟨v, vs, rfl, by rw [hK]; exact h1 G, by rw [hK]; exact h2, h3 G⟩
end
end DL

set_option Elab.async false
set_option linter.all false
set_option maxRecDepth 100000
/-! Short names for the rules, for a program that prints proofs. -/
namespace DL
open PySem PySem.Spec PyProof.Rows L2

section
variable {X : Cx} {Z : Ct} {k : Nat} {a b c : Expr} {φ ψ χ : DEnv → List D → Res D} {pos p p2 : Pos} {x : Str}
def BinOK (X : Cx) (Z : Ct) (op : Operator) (f : D → D → Option D) : Prop := ∃ r, OpR X (binaryOp op) r ∧ OpD Z r f
def CmpOK (X : Cx) (Z : Ct) (op : CmpOp) (f : D → D → Option D) : Prop := ∃ r, OpR X (compareOp op) r ∧ OpD Z r f
theorem b_add (o : Okc X Z k) : BinOK X Z .Add oAdd := ⟨_, op_addA X, by rw [← o.K]; exact od_add⟩
theorem b_sub (o : Okc X Z k) : BinOK X Z .Sub oSub := ⟨_, op_sub, od_sub⟩
theorem b_mul (o : Okc X Z k) : BinOK X Z .Mult oMul := ⟨_, op_mulA X, by rw [← o.K]; exact od_mul⟩
theorem b_div (o : Okc X Z k) : BinOK X Z .FloorDiv oDiv := ⟨_, op_fdiv, od_div⟩
theorem b_mod (o : Okc X Z k) : BinOK X Z .Mod oMod := ⟨_, op_mod, od_mod⟩
theorem b_pow (o : Okc X Z k) : BinOK X Z .Pow oPow := ⟨_, op_pow, od_pow⟩
theorem b_shl (o : Okc X Z k) : BinOK X Z .LShift oShl := ⟨_, op_shl, od_shl⟩
theorem b_shr (o : Okc X Z k) : BinOK X Z .RShift oShr := ⟨_, op_shr, od_shr⟩
theorem b_and (o : Okc X Z k) : BinOK X Z .BitAnd oAnd := ⟨_, op_and, od_and⟩
theorem b_or (o : Okc X Z k) : BinOK X Z .BitOr oOr := ⟨_, op_or, od_or⟩
theorem k_eq (o : Okc X Z k) : CmpOK X Z .Eq oEq := ⟨_, op_eqD o.room.units, by rw [← o.K]; exact od_eq⟩
theorem k_ne (o : Okc X Z k) : CmpOK X Z .NotEq oNe := ⟨_, op_neD o.room.units, by rw [← o.K]; exact od_ne⟩
theorem k_lt (o : Okc X Z k) : CmpOK X Z .Lt oLt := ⟨_, op_lt, od_lt⟩
theorem k_le (o : Okc X Z k) : CmpOK X Z .LtE oLe := ⟨_, op_le, od_le⟩
theorem k_gt (o : Okc X Z k) : CmpOK X Z .Gt oGt := ⟨_, op_gt, od_gt⟩
theorem k_ge (o : Okc X Z k) : CmpOK X Z .GtE oGe := ⟨_, op_ge, od_ge⟩
theorem k_is (o : Okc X Z k) : CmpOK X Z .Is oIs := ⟨_, op_isA X, od_is⟩
theorem k_isn (o : Okc X Z k) : CmpOK X Z .IsNot oIsN := ⟨_, op_isnA X, od_isn⟩
theorem e_bin {op : Operator} {f : D → D → Option D} (h : BinOK X Z op f) (ha : DE X Z a φ) (hb : DE X Z b ψ) : DE X Z (.BinOp a op b pos) (opE f φ ψ) := let ⟨_, h1, h2⟩ := h; de_bin h1 h2 ha hb
theorem e_cmp {op : CmpOp} {f : D → D → Option D} (h : CmpOK X Z op f) (hm : behindInMarks op b = false) (ha : DE X Z a φ) (hb : DE X Z b ψ) : DE X Z (.Compare a [op] [b] pos) (opE f φ ψ) := let ⟨_, h1, h2⟩ := h; de_cmp h1 h2 hm ha hb
theorem t_cmp {op : CmpOp} {f : D → D → Option D} (h : CmpOK X Z op f) (hm : behindInMarks op b = false) (ha : DE X Z a φ) (hb : DE X Z b ψ) : DT X Z (.Compare a [op] [b] pos) (tst (opE f φ ψ)) := let ⟨_, h1, h2⟩ := h; dt_cmp h1 h2 hm ha hb
theorem e_chain {op op' : CmpOp} {f g : D → D → Option D} (h : CmpOK X Z op f) (h' : CmpOK X Z op' g) (hm : lastMarks [op, op'] [b, c] = false) (ha : DE X Z a φ) (hb : DE X Z b ψ) (hc : DE X Z c χ) : DE X Z (.Compare a [op, op'] [b, c] pos) (chainE f g φ ψ χ) :=
  let ⟨_, h1, h2⟩ := h; let ⟨_, h3, h4⟩ := h'; de_chain h1 h2 h3 h4 hm ha hb hc
theorem t_chain {op op' : CmpOp} {f g : D → D → Option D} (h : CmpOK X Z op f) (h' : CmpOK X Z op' g) (hm : lastMarks [op, op'] [b, c] = false) (ha : DE X Z a φ) (hb : DE X Z b ψ) (hc : DE X Z c χ) : DT X Z (.Compare a [op, op'] [b, c] pos) (tst (chainE f g φ ψ χ)) :=
  let ⟨_, h1, h2⟩ := h; let ⟨_, h3, h4⟩ := h'; dt_chain h1 h2 h3 h4 hm ha hb hc
theorem room65 (o : Okc X Z k) : X.A.units + 65 < cLine := by have := o.room.un; omega
theorem e_in (o : Okc X Z k) (hm : behindInMarks .In b = false) (ha : DS X Z a φ) (hb : DS X Z b ψ) : DE X Z (.Compare a [.In] [b] pos) (opV oIn φ ψ) := de_cmpV (op_inA (room65 o)) (by rw [← o.K]; exact ov_in) hm ha hb
theorem t_in (o : Okc X Z k) (hm : behindInMarks .In b = false) (ha : DS X Z a φ) (hb : DS X Z b ψ) : DT X Z (.Compare a [.In] [b] pos) (tst (opV oIn φ ψ)) := dt_cmpV (op_inA (room65 o)) (by rw [← o.K]; exact ov_in) hm ha hb
theorem e_notIn (o : Okc X Z k) (hm : behindInMarks .NotIn b = false) (ha : DS X Z a φ) (hb : DS X Z b ψ) : DE X Z (.Compare a [.NotIn] [b] pos) (opV oNotIn φ ψ) := de_cmpV (op_notInA (room65 o)) (by rw [← o.K]; exact ov_notIn) hm ha hb
theorem t_notIn (o : Okc X Z k) (hm : behindInMarks .NotIn b = false) (ha : DS X Z a φ) (hb : DS X Z b ψ) : DT X Z (.Compare a [.NotIn] [b] pos) (tst (opV oNotIn φ ψ)) := dt_cmpV (op_notInA (room65 o)) (by rw [← o.K]; exact ov_notIn) hm ha hb
theorem e_ix (o : Okc X Z k) (hs : PlainIx b) (ha : DS X Z a φ) (hb : DS X Z b ψ) : DE X Z (.Subscript a b pos) (opV oIx φ ψ) := de_ix ix_seq (by rw [← o.K]; exact ov_ix) ha hb hs
/-! names of the top -/
theorem e_int {i : Int} (hg : Gl X x) (hm : ∃ t, X.mg x = some (.int i t)) (hd : (x == ("__debug__" : Str)) = false) : DE X Z (.Name x pos) (lit (.int i)) := let ⟨t, h⟩ := hm; de_glob (v := .int i) hg h ⟨t, rfl⟩ hd fun _ => rp_int _
theorem e_str {z : Str} (hg : Gl X x) (hm : ∃ t, X.mg x = some (.str z t)) (hd : (x == ("__debug__" : Str)) = false) : DE X Z (.Name x pos) (lit (.str z.cps.toList)) := let ⟨t, h⟩ := hm; de_glob (v := .str z) hg h ⟨t, rfl⟩ hd fun _ => rp_str _
theorem rp_fn {Y : Lay} {G : Hp} (j : Nat) : Rp Y G (.fn j) (.ref (Y.F j)) := by rw [Rp]
theorem e_fn {j : Nat} (hg : Gl X x) (hm : X.mg x = some (.ref (Z.Y.F j))) (hd : (x == ("__debug__" : Str)) = false) : DE X Z (.Name x pos) (lit (.fn j)) := de_glob (v := .ref (Z.Y.F j)) hg hm rfl hd fun _ => rp_fn j
/-! built-ins of one thing -/
section
variable (o : Okc X Z k) (hg : Gl X x) (hm : X.mg x = none) (ha : DS X Z a φ) (hs : starEach [a] X.env = [(false, eval a X.env)])
include o hg hm ha hs
theorem e_len (hx : x = "len") : DE X Z (.Call (.Name x p) [a] [] pos) (b1E oLen φ) := by subst hx; exact de_b1 call_len (by rw [← o.K]; exact b1_len) hg hm boot_len (by decide) (by decide) ha hs
theorem e_tup (hx : x = "tuple") : DE X Z (.Call (.Name x p) [a] [] pos) (b1E oTup φ) := by subst hx; exact de_t1 call_tuple_of (by rw [← o.K]; exact b1_tup) hg hm boot_tuple (by decide) (by decide) ha hs
theorem e_lst (hx : x = "list") : DE X Z (.Call (.Name x p) [a] [] pos) (b1E oLst φ) := by subst hx; exact de_t1 call_list_of (by rw [← o.K]; exact b1_lst) hg hm boot_list (by decide) (by decide) ha hs
theorem e_toInt (hx : x = "int") : DE X Z (.Call (.Name x p) [a] [] pos) (b1E oInt φ) := by subst hx; exact de_t1 call_int1 b1_int hg hm boot_int (by decide) (by decide) ha hs
theorem e_sum (hx : x = "sum") : DE X Z (.Call (.Name x p) [a] [] pos) (b1E oSum φ) := by subst hx; exact de_b1 (cr_sumA o.calm) (by rw [← o.K]; exact b1_sum) hg hm boot_sum (by decide) (by decide) ha hs
theorem e_all (hx : x = "all") : DE X Z (.Call (.Name x p) [a] [] pos) (b1E oAll φ) := by subst hx; exact de_b1 (cr_all o.calm) (by rw [← o.K]; exact b1_all) hg hm boot_all (by decide) (by decide) ha hs
theorem e_any (hx : x = "any") : DE X Z (.Call (.Name x p) [a] [] pos) (b1E oAny φ) := by subst hx; exact de_b1 (cr_any o.calm) (by rw [← o.K]; exact b1_any) hg hm boot_any (by decide) (by decide) ha hs
theorem e_min (hx : x = "min") : DE X Z (.Call (.Name x p) [a] [] pos) (b1E oMin φ) := by subst hx; exact de_b1 (cr_min o.calm) (by rw [← o.K]; exact b1_min) hg hm boot_min (by decide) (by decide) ha hs
theorem e_max (hx : x = "max") : DE X Z (.Call (.Name x p) [a] [] pos) (b1E oMax φ) := by subst hx; exact de_b1 (cr_max o.calm) (by rw [← o.K]; exact b1_max) hg hm boot_max (by decide) (by decide) ha hs
theorem e_repr (hx : x = "repr") : DE X Z (.Call (.Name x p) [a] [] pos) (b1E oRepr φ) := by subst hx; exact de_b1 (cr_reprA o.gd (by have := o.room.un; omega)) (by rw [← o.K]; exact b1_repr) hg hm boot_repr (by decide) (by decide) ha hs
end
/-! blocks -/
def blkB (N : List Str) (sc scope : Scope) (own : List (Str × Nat)) : Bool :=
  decide (scope.kind = .function) && scope.names.all (fun y => decide (scope.names.lookup y.1 = some y.2)) && own.all (fun p => decide (N[p.2]? = some p.1)) &&
  scope.names.all (fun y => !decide (y.2 = .free) || decide (sc.names.lookup y.1 = some .cell) || decide (sc.names.lookup y.1 = some .free)) &&
  scope.names.all (fun y => !(decide (y.2 = .local) || decide (y.2 = .cell)) || (own.map (·.1)).contains y.1 || !N.contains y.1)
theorem blk_by {N : List Str} {sc scope : Scope} {own : List (Str × Nat)} (h : blkB N sc scope own = true) : BlkOk N sc scope own := by
  unfold blkB at h
  simp only [Bool.and_eq_true, decide_eq_true_eq, List.all_eq_true, Bool.or_eq_true, Bool.not_eq_true', decide_eq_false_iff_not, List.contains_iff_mem] at h
  obtain ⟨⟨⟨⟨h1, h2⟩, h3⟩, h4⟩, h5⟩ := h
  refine ⟨h1, h2, h3, fun y hy e => ?_, fun y hy e => ?_⟩
  · rcases h4 y hy with (z | z) | z
    · exact absurd e z
    · exact .inl z
    · exact .inr z
  · rcases h5 y hy with (z | z) | z
    · exfalso
      rcases e with e | e
      · simp [e] at z
      · simp [e] at z
    · exact .inl z
    · exact .inr (by simpa using z)
end
/-! ### facts of the top by their places -/
section
variable {K : PySem.W.Frag} {mg : Str → Option Value} {fa : List He.Fa} {fn : List He.DefD}
structure TX (fa : List He.Fa) (fn : List He.DefD) (K : PySem.W.Frag) (mg : Str → Option Value) : Prop where
  ex : ∃ h : Heap, K.In h ∧ h.Ns mainGlobals mg ∧ He.SaysD fa fn K
theorem tg (T : TX fa fn K mg) (i : Nat) {x : Str} (e : fa[i]? = some (.glo x)) : mg x = some (.ref (He.ga K x)) := let ⟨_, X, G, c⟩ := T.ex; He.glo_ok X G (c.fact i e)
theorem tf (T : TX fa fn K mg) (i : Nat) {x : Str} (e : fa[i]? = some (.free x)) : mg x = none := let ⟨_, X, G, c⟩ := T.ex; He.free_ok X G (c.fact i e)
theorem ti (T : TX fa fn K mg) (i : Nat) {x : Str} {n : Int} (e : fa[i]? = some (.int x n)) : ∃ t, mg x = some (.int n t) := let ⟨_, X, G, c⟩ := T.ex; He.int_ok X G (c.fact i e)
theorem ts (T : TX fa fn K mg) (i : Nat) {x z : Str} (e : fa[i]? = some (.str x z)) : ∃ t, mg x = some (.str z t) := let ⟨_, X, G, c⟩ := T.ex; He.str_ok X G (c.fact i e)
theorem tcls (T : TX fa fn K mg) (i : Nat) {x : Str} (e : fa[i]? = some (.cls x)) : Cls K (He.ga K x) := let ⟨_, X, G, c⟩ := T.ex; He.cls_ok (c.fact i e)
theorem tnoat (T : TX fa fn K mg) (i : Nat) {x f : Str} (e : fa[i]? = some (.noat x f)) : NoAttr K (He.ga K x) f := let ⟨_, X, G, c⟩ := T.ex; He.noat_ok (c.fact i e)
theorem tmeth (T : TX fa fn K mg) (i : Nat) {x m : Str} (e : fa[i]? = some (.meth x m)) : Meth K (He.ga K x) m (He.ma K (He.ga K x) m) := let ⟨_, X, G, c⟩ := T.ex; He.meth_ok (c.fact i e)
theorem tmkr (T : TX fa fn K mg) (i : Nat) {x : Str} (e : fa[i]? = some (.mkr x)) : Mk K (He.ga K x) (He.ma K (He.ga K x) "__init__") := let ⟨_, X, G, c⟩ := T.ex; He.mkr_ok (c.fact i e)
theorem tdef (T : TX fa fn K mg) (i : Nat) {d : He.DefD} (e : fn[i]? = some d) : ∃ fd, FunD K d.name d.qual d.params d.body d.scope (d.dvs K) (d.kws K) (He.fAd K d.at_) fd := let ⟨_, X, G, c⟩ := T.ex; c.def_ i e
end
end DL

set_option Elab.async false
set_option linter.all false
set_option maxRecDepth 100000
/-! sorted, an own ==, a pair bound, defs that make lambdas, the law's own def. -/
namespace DL
open PySem PySem.Spec PyProof.Rows L2

/-! ### a def whose code object is known; a def that is never called -/
section
variable {P : Program} {w : World} {K : PySem.W.Frag} {mg : Str → Option Value} {base : Heap} {x qual : Str} {params : Arguments} {body : List Stmt} {scope : Scope} {f : Addr} {fd : FuncData}
theorem code_of {dvs : List V} {kws : List (Str × V)} (F : FunD K x qual params body scope dvs kws f fd) {q : Str × Option Str} (hf : f = He.fAd K q) : fd.code = .ref (He.codeOf K q) := by
  obtain ⟨oc, od, dV, kV, doc, pm, an, cdv, ct, osl, rfl, lk, hcd, _, _⟩ := F.ex
  obtain ⟨c, hc⟩ := He.codeIn_ref hcd
  subst hc
  rw [hf] at lk
  rw [He.codeOf_eq lk rfl]
theorem fng_ofC {CX : CXT} {k : Nat} {dvs : List V} {kws : List (Str × V)} {N ps : List Str} {sp : Sp}
    (F : FunD K x qual params body scope dvs kws f fd) (S : FnScope N ps scope) (len : ∀ vs H Q E, sp vs H Q E → vs.length = ps.length)
    (hbody : ∀ (cdv : Value) (A : Around) (outer : List Env) (s : Shared) (H : Hp) (vs : List V) (Q : VK) (E : XK), cdv = fd.code → Room k (A.deeper (envOfC qual scope s.heap.objs.size f cdv)) → A.guards = some [] → sp vs H Q E →
      ∃ t, PSs (cxOf CX P w K mg base N qual scope f cdv A outer s H E) body t ∧ t { nx := fun _ H' => Q .non H', rt := Q } (L2.start N vs) H) :
    FnG P w K mg base CX (k + 1) f fd ps sp := by
  have hc : ∀ cdv, cdv = fd.code → cdv = fd.code := fun _ h => h
  have F2 := F
  obtain ⟨oc, od, dV, kV, doc, pm, an, cdv, ct, osl, rfl, lk, hcd, _, _⟩ := F.ex
  refine ⟨len, fun A outer s H args us vs Q E hr hG e0 hb r hsp => ?_⟩
  have hl := len _ _ _ _ hsp
  have KX : K.In s.heap := e0.mod.kin.keeps fun b o e => (e0.bs b o e).1
  have lim : s.heap.NoLimit := e0.mod.nolimit.keeps fun b o e => (e0.bs b o e).1
  have hkind : ∀ y ∈ ps.zip us, scope.names.lookup y.1 = some .local ∨ (scope.names.lookup y.1 = some .cell ∧ ((cellsFrom (s.heap.objs.size + 1) scope.names []).lookup y.1).isSome = true) := fun ⟨n, v⟩ hy => by
    rcases S.par n (List.of_mem_zip hy).1 with q | q
    · exact .inl q
    · exact .inr ⟨q, PySem.W.cellsFrom_some _ _ _ (.inl q)⟩
  refine codeAny_call_function hr.depth (KX _ _ lk) rfl S.co S.gen rfl (PySem.W.codeRec_of KX hcd) (hb _ _ _ _ ?_)
  refine wpAny_newFunctionEnv_cells S.kind hkind fun env he s1 x => ?_
  subst he
  refine ⟨lim.keeps x.toInCall.keep, codeAny_func ?_⟩
  obtain ⟨t, ht, hq⟩ := hbody cdv A outer s H vs Q E rfl (hr.deeper _) hG hsp
  have I : Inv (cxOf CX P w K mg base N qual scope f cdv A outer s H E) [] (L2.start N vs) H s1 := inv_start S hr.hd e0 hl r x
  refine wpAny_mono (ht.run [] s1 (L2.start N vs) H _ I hq) (fun fl s' hs => ?_) fun e s' hs => hs
  have fin : ∀ {σ' : L2.St} {H' : Hp} {v : V} {u : Value}, Inv (cxOf CX P w K mg base N qual scope f cdv A outer s H E) [] σ' H' s' → L2.RelV v u → Q v H' → CE outer P w H s Q u s' :=
    fun {σ' H' v u} J rv q => ⟨v, H', J.os, J.bare, J.base, J.hok, rv, q⟩
  cases fl with
  | ret u =>
    obtain ⟨v, σ', H', J, rv, q⟩ := hs
    exact fin J rv q
  | next =>
    obtain ⟨σ', H', J, q⟩ := hs
    exact fin (v := V.non) (u := Value.none) J rfl q
  | brk =>
    obtain ⟨_, _, _, q⟩ := hs
    exact False.elim q
  | cont =>
    obtain ⟨_, _, _, q⟩ := hs
    exact False.elim q
theorem fnc_ofL {kws : List (Str × V)} {N ps : List Str} {Y : Lay} {k : Nat} {φ : DEnv → List D → SR} (hK : Y.K = K) (F : FunD K x qual params body scope [] kws f fd) (S : FnScope N ps scope) (hb : Binds K fd ps []) (hN : ps.length ≤ N.length) {q : Str × Option Str} (hf : f = He.fAd K q)
    (h : ∀ (ρ : Addr) (A : Around) (outer : List Env) (s : Shared) (H : Hp) (E : XK), Oks (cxOf (L2.CX P w) P w K mg base N qual scope f (.ref (He.codeOf K q)) A outer s H E) (zOf Y ρ H E) k → DSs (cxOf (L2.CX P w) P w K mg base N qual scope f (.ref (He.codeOf K q)) A outer s H E) (zOf Y ρ H E) body φ) :
    FnC P w K mg base (k + 1) f Y (defD ps.length N.length φ) := by
  have hcode := code_of F hf
  refine ⟨fd, ps, fng_ofC F S (fun vs H Q E hs => ?_) (fun cdv A outer s H vs Q E hcd hr hG hs => ?_), F.kp, hb⟩
  · obtain ⟨ρ, G, st, ds, r, fz, row, po⟩ := hs
    by_cases hl : ds.length = ps.length
    · rw [← r.length]; exact hl
    · rw [defD, if_neg hl] at po
      exact po.elim
  · rw [hcode] at hcd
    subst hcd
    obtain ⟨ρ, G, st, ds, r, fz, row, po⟩ := hs
    by_cases hl : ds.length = ps.length
    · rw [defD, if_pos hl] at po
      obtain ⟨t, pt, rd⟩ := h ρ A outer s H E (oks_of hK S.nd hr hG)
      refine ⟨t, pt, rd G H _ H G _ st _ (start_er fz row r hl hN) En.start ?_⟩
      generalize hq : φ (ds.map Sl.val ++ List.replicate (N.length - ps.length) Sl.un) st = q at po ⊢
      cases q with
      | nx env1 st1 => exact fun σ1 G1 H1 er en => po .non G1 H1 (en.out er.fz) er.row rp_non
      | rt d env1 st1 => exact fun v σ1 G1 H1 er en rv => po v G1 H1 (en.out er.fz) er.row rv
      | exc c fs st1 => exact fun cls dx σ1 G1 H1 f1 row1 en ex => po cls dx G1 H1 (en.out f1) row1 ex
      | bad => exact po
    · rw [defD, if_neg hl] at po
      exact po.elim
theorem fnc_bad {kws : List (Str × V)} {ps : List Str} {Y : Lay} {k : Nat} (F : FunD K x qual params body scope [] kws f fd) (hb : Binds K fd ps []) : FnC P w K mg base k f Y (fun _ _ => .bad) := by
  refine ⟨fd, ps, ⟨fun vs H Q E hs => ?_, fun A outer s H args us vs Q E _ _ _ _ _ hs => ?_⟩, F.kp, hb⟩
  · obtain ⟨_, _, _, _, _, _, _, po⟩ := hs
    exact po.elim
  · obtain ⟨_, _, _, _, _, _, _, po⟩ := hs
    exact po.elim
/-- statements read alike in each of many contexts -/
theorem pss_any {X : Cx} {ss : List Stmt} {φ : DEnv → List D → SR} {ι : Type} {Z : ι → Ct} (h : ∀ i, DSs X (Z i) ss φ) :
    PSs X ss (fun (Dn : Ends) σ H1 => ∃ (i : ι) (G : Hp) (env : DEnv) (st : List D), ER (Z i).Y (Z i).fc (Z i).Nw G env st σ H1 ∧ En (Z i).Y.M (Z i).Nw G H1 G H1 ∧ SPost (Z i) G H1 (φ env st) Dn) :=
  ⟨fun pins s σ H1 Dn I hh => by
    obtain ⟨i, G, env, st, er, en, po⟩ := hh
    obtain ⟨t, pt, rd⟩ := h i
    exact pt.run pins s σ H1 Dn I (rd G H1 σ H1 G env st Dn er en po)⟩
/-! ### the law's own def -/
/-- what the law's def is told: a list of ints, the tables of code objects, empty -/
def spLaw (K : PySem.W.Frag) (tb : List (Addr × Str)) (Φ : List D → Res D) : Sp := fun vs H Q _ => ∃ (a : Addr) (ns : List Int), vs = [.ref a] ∧ SqL K H a (ns.map V.int) ∧ (∀ p ∈ tb, H p.1 = some (.tbl #[])) ∧ (∃ st, Φ (ns.map D.int) = .ok (.bl true) st) ∧ ∀ H', Q (.bl true) H'
theorem rpl_ints {Y : Lay} {G : Hp} : ∀ ns : List Int, RpL Y G (ns.map D.int) (ns.map V.int)
  | [] => RpL.nil
  | n :: ns => RpL.cons (rp_int n) (rpl_ints ns)
/-- what a law whose first statement makes the row computes -/
def lawD (m : Nat) (seed : Int) (φ : DEnv → List D → SR) (ns : List D) : Res D := (φ (.val (.scr ns) :: .val .row :: List.replicate (m - 2) Sl.un) [.scr ns, .int 0, .int seed, .int 0]).val
theorem fng_law {kws : List (Str × V)} {N : List Str} {Y : Lay} {k : Nat} {φ : DEnv → List D → SR} {x1 x2 : Str} {seed : Int} {rest : List Stmt} {p1 p2 p3 p4 p5 p6 p7 : Pos} {j1 j2 j3 : Nat} (hK : Y.K = K)
    (hbd : body = .Assign [.Name x2 p1] (.List [.Name x1 p2, .Constant (.int 0) j1 p3, .Constant (.int seed) j2 p4, .Constant (.int 0) j3 p5] p6) p7 :: rest) (F : FunD K x qual params body scope [] kws f fd) (S : FnScope N [x1] scope) (hN : N[0]? = some x1) (hN1 : N[1]? = some x2)
    (hv : Vis scope x1) (hl : Loc scope x2) (hfn : scope.names.lookup x2 = some .local) (d1 : (x1 == ("__debug__" : Str)) = false) (d2 : (x1 == ("__classdict__" : Str)) = false) {q : Str × Option Str} (hf : f = He.fAd K q)
    (hs : ∀ env : Env, env.scope = scope → swapsWith (.List [.Name x1 p2, .Constant (.int 0) j1 p3, .Constant (.int seed) j2 p4, .Constant (.int 0) j3 p5] p6) (some (.Name x2 p1)) p7.line env = pure false)
    (h : ∀ (ρ : Addr) (A : Around) (outer : List Env) (s : Shared) (H : Hp) (E : XK), Oks (cxOf (L2.CX P w) P w K mg base N qual scope f (.ref (He.codeOf K q)) A outer s H E) (zOf Y ρ H E) k → DSs (cxOf (L2.CX P w) P w K mg base N qual scope f (.ref (He.codeOf K q)) A outer s H E) (zOf Y ρ H E) rest φ) :
    FnG P w K mg base (L2.CX P w) (k + 1) f fd [x1] (spLaw K Y.tb (lawD N.length seed φ)) := by
  have hcode := code_of F hf
  subst hbd
  refine fng_ofC F S (fun vs H Q E hs => ?_) (fun cdv A outer s H vs Q E hcd hr hG hsp => ?_)
  · obtain ⟨a, ns, rfl, _⟩ := hs
    rfl
  · rw [hcode] at hcd
    subst hcd
    obtain ⟨a, ns, rfl, hS, hT, ⟨st1, hΦ⟩, hQ⟩ := hsp
    have ok : ∀ ρ, Oks (cxOf (L2.CX P w) P w K mg base N qual scope f (.ref (He.codeOf K q)) A outer s H E) (zOf Y ρ H E) k := fun ρ => oks_of hK S.nd hr hG
    have prest := pss_any (Z := fun ρ => zOf Y ρ H E) fun ρ => h ρ A outer s H E (ok ρ)
    have nlen : 2 ≤ N.length := by
      have := (List.getElem?_eq_some_iff.mp hN1).1
      omega
    refine ⟨_, pss_cons (ps_set (i := 1) S.nd hN1 hl (pe_lst (pa_cons (pe_var (i := 0) hN hv d1 d2) (pa_cons pe_int (pa_cons pe_int (pa_cons pe_int pa_nil rfl) rfl) rfl) rfl)) (hs _ rfl) (.inr hfn)) prest, ?_⟩
    refine ⟨.ref a, by unfold L2.start; simp, by rw [sizeLine_eq]; show 4 ≤ 16777216; decide, fun p hp => ?_⟩
    obtain ⟨G, hGH, hGS, hGT⟩ : ∃ G : Hp, Le G H ∧ SqL K G a (ns.map V.int) ∧ ∀ p ∈ Y.tb, G p.1 = none := by
      rcases hS with (hS | ⟨o, hS⟩) | hS
      · refine ⟨fun b => if b = a then H b else none, fun b o h => ?_, .inl (.inl ((if_pos rfl).trans hS)), fun p hp => ?_⟩
        · have h : (if b = a then H b else none) = some o := h
          by_cases e : b = a
          · exact (if_pos e).symm.trans h
          · have z := (if_neg e).symm.trans h
            cases z
        · by_cases e : p.1 = a
          · have := hT p hp
            rw [e, hS] at this; cases this
          · exact if_neg e
      · refine ⟨fun b => if b = a then H b else none, fun b o h => ?_, .inl (.inr ⟨o, (if_pos rfl).trans hS⟩), fun p hp => ?_⟩
        · have h : (if b = a then H b else none) = some o := h
          by_cases e : b = a
          · exact (if_pos e).symm.trans h
          · have z := (if_neg e).symm.trans h
            cases z
        · by_cases e : p.1 = a
          · have := hT p hp
            rw [e, hS] at this; cases this
          · exact if_neg e
      · exact ⟨fun _ => none, fun b o h => (by cases h), .inr hS, fun _ _ => rfl⟩
    have hpa : ∀ q ∈ Y.tb, q.1 ≠ p := fun q hq z => by
      have := hT q hq
      rw [z, hp] at this; cases this
    have hGp : G p = none := by
      cases e : G p with
      | none => rfl
      | some o => rw [hGH _ _ e] at hp; cases hp
    have rscr : Rp (zOf Y p H E).Y G (.scr (ns.map D.int)) (.ref a) := by
      rw [Rp]
      exact ⟨a, ns.map V.int, rfl, by rw [show (zOf Y p H E).Y.K = K from hK]; exact hGS, rpl_ints ns⟩
    have row : RowR (zOf Y p H E).Y G [.scr (ns.map D.int), .int 0, .int seed, .int 0] (upd H p (.lst [.ref a, .int 0, .int seed, .int 0])) :=
      ⟨_, upd_same, hGp, RpL.cons rscr (RpL.cons (rp_int _) (RpL.cons (rp_int _) (RpL.cons (rp_int _) RpL.nil))), fun q hq => LamX.TabS.nil (by rw [upd_ne (hpa q hq)]; exact hT q hq), hGT⟩
    have fz : Le G (upd H p (.lst [.ref a, .int 0, .int seed, .int 0])) := fun b o h => by
      rw [upd_ne (fun z => by rw [z, hGp] at h; cases h)]
      exact hGH b o h
    refine ⟨p, G, .val (.scr (ns.map D.int)) :: .val .row :: List.replicate (N.length - 2) Sl.un, [.scr (ns.map D.int), .int 0, .int seed, .int 0], ⟨fz, fun i sl hi => ?_, fun i j o u hi => ?_, row⟩, ⟨fun b hb => ?_, fun _ _ h => h, fun _ _ h _ _ => h, fun _ _ h => .inl h⟩, ?_⟩
    · match i, hi with
      | 0, hi =>
        cases hi
        exact ⟨some (.ref a), by unfold L2.start; simp, .ref a, rfl, rscr⟩
      | 1, hi =>
        cases hi
        refine ⟨some (.ref p), by
          rw [List.getElem?_set_self]
          unfold L2.start
          simp
          omega, .ref p, rfl, by rw [Rp]⟩
      | i + 2, hi =>
        simp only [List.getElem?_cons_succ] at hi
        rw [List.getElem?_replicate] at hi
        split at hi
        · rename_i hlt
          cases hi
          refine ⟨none, ?_, True.intro⟩
          rw [List.getElem?_set_ne (by omega)]
          unfold L2.start
          rw [List.getElem?_append_right (by simp)]
          rw [List.getElem?_replicate]
          simp
          omega
        · cases hi
    · exfalso
      match i, hi with
      | 0, hi => cases hi
      | 1, hi => cases hi
      | i + 2, hi =>
        simp only [List.getElem?_cons_succ] at hi
        rw [List.getElem?_replicate] at hi
        split at hi <;> cases hi
    · show H b = none
      by_cases e : b = p
      · rw [e]; exact hp
      · rwa [upd_ne e] at hb
    · unfold lawD SR.val at hΦ
      generalize hq : φ (.val (.scr (ns.map D.int)) :: .val .row :: List.replicate (N.length - 2) Sl.un) [.scr (ns.map D.int), .int 0, .int seed, .int 0] = r at hΦ ⊢
      cases r with
      | rt d env1 st2 =>
        cases hΦ
        intro v σ1 G1 H1 er en rv
        rw [bl_inv rv]
        exact hQ H1
      | nx env1 st2 => cases hΦ
      | exc c fs st2 => cases hΦ
      | bad => cases hΦ
end
end DL
namespace DL
open PySem PySem.Spec PyProof.Rows L2
section
variable {X : Cx} {Z : Ct} {k : Nat} {a b : Expr} {φ ψ : DEnv → List D → Res D} {pos p p2 : Pos}
/-! ### a, b = x, y -/
def parS (i j : Nat) (φ ψ : DEnv → List D → Res D) (env : DEnv) (st : List D) : SR := ofR (φ env st) fun d st1 => ofR (ψ env st1) fun e st2 => .nx ((env.set i (.val d)).set j (.val e)) st2
theorem ofR_bind {α β : Type} {r : Res α} {f : α → List D → Res β} {g : β → List D → SR} : ofR (r.bind f) g = ofR r fun d st1 => ofR (f d st1) g := by cases r <;> rfl
theorem ds_par {i j : Nat} {x y : Str} {px py pt pt2 : Pos} {kt k2 : Nat} (o : Okc X Z k) (hi : X.N[i]? = some x) (hj : X.N[j]? = some y) (hij : i ≠ j) (hx : X.env.scope.names.lookup x = some .local) (hy : X.env.scope.names.lookup y = some .local) (ha : DE X Z a φ) (hb : DE X Z b ψ)
    (h1 : starEach [a, b] X.env = (false, eval a X.env) :: starEach [b] X.env) (h2 : starEach [b] X.env = (false, eval b X.env) :: starEach [] X.env) (hw : swappedStores [.Tuple [.Name x px, .Name y py] kt pt] (.Tuple [a, b] k2 pt2) X.env = pure (some [x, y]))
    (hs : swapsWithSole [.Tuple [.Name x px, .Name y py] kt pt] (.Tuple [a, b] k2 pt2) pos.line X.env = pure false) : DSt X Z (.Assign [.Tuple [.Name x px, .Name y py] kt pt] (.Tuple [a, b] k2 pt2) pos) (parS i j φ ψ) := by
  obtain ⟨t, q, rd⟩ := da_cons ha (da_cons hb da_nil h2) h1
  refine ⟨_, ps_par o.calm o.nd hi hj hij hx hy q hw hs, fun G0 H0 σ H G env st E er en po => ?_⟩
  have e : parS i j φ ψ env st = ofR (consA φ (consA ψ nilA) env st) fun ds st2 => match ds with
      | [d, e] => .nx ((env.set i (.val d)).set j (.val e)) st2
      | _ => .bad := by
    unfold parS consA nilA
    rw [ofR_bind]
    congr 1
    funext d st1
    rw [ofR_bind]
    generalize ψ env st1 = r
    cases r <;> rfl
  rw [e] at po
  refine rd σ H G env st _ er (SPost.post er en po fun ds st1 vs G1 H1 _ _ er1 en1 rv po1 => ?_)
  have rv : RpL Z.Y G1 ds vs := rv
  match ds, rv, po1 with
  | [], _, po1 => exact po1.elim
  | [d], _, po1 => exact po1.elim
  | d :: e :: f :: ds, _, po1 => exact po1.elim
  | [d, e], rv, po1 =>
    obtain ⟨v, r, rfl, rv1, r2⟩ := rv.cons_inv
    obtain ⟨w, r, rfl, rv2, r3⟩ := r2.cons_inv
    rw [r3.nil_inv]
    exact ⟨v, w, rfl, po1 _ G1 H1 ((er1.set_val rv1).set_val rv2) en1⟩
/-! ### an own == -/
structure EqOwn (K : PySem.W.Frag) (Y : Lay) (c : Nat) (f : Addr) : Prop where
  hs : PySem.W.findIn K (.ref (Y.C c)) "__eq__" = some (some (.ref f))
  hf : PySem.W.isFn K (.ref f) = true
  nk : ∀ k ∈ ["NoneType", "bool", "int", "str", "tuple", "list"], PySem.W.notFirst K (Y.C c) (.type k) = true
def okEq (c : Nat) (e : D) : Bool := match e with
  | .obj c' _ => decide (c' = c)
  | e => (kindD e).isSome
def eqOwnE (c : Nat) (Φ : List D → List D → Res D) (φ ψ : DEnv → List D → Res D) (env : DEnv) (st : List D) : Res D := (φ env st).bind fun d st1 => (ψ env st1).bind fun e st2 => match d with
  | .obj c' fs => if c' = c ∧ okEq c e = true then (match Φ [.obj c' fs, e] st2 with
    | .ok (.bl b) st3 => .ok (.bl b) st3
    | _ => .bad) else .bad
  | _ => .bad
/-- y's type, asked of an own == -/
theorem eq_ty {pins : List (Addr × Obj)} {σ : L2.St} {G H : Hp} {s : Shared} {c : Nat} {e : D} {y : V} {u : Value} {f : Addr} (I : Inv X pins σ H s) (Eo : EqOwn X.K Z.Y c f) (hK : Z.Y.K = X.K) (fz : Le G H) (r : Rp Z.Y G e y) (ru : RelV y u) (ok : okEq c e = true) :
    ∃ tb, PySem.W.Looks (model X.prog X.w) s.heap (typeOf u) tb ∧ PySem.W.notFirst X.K (Z.Y.C c) tb = true := by
  have kinds : ∀ {q : String}, kindD e = some q → q ∈ ["NoneType", "bool", "int", "str", "tuple", "list"] → ∃ tb, PySem.W.Looks (model X.prog X.w) s.heap (typeOf u) tb ∧ PySem.W.notFirst X.K (Z.Y.C c) tb = true := fun {q} h1 h2 => by
    have ty := kind_ty (G := G) (H := H) fz (.inl r) h1
    rw [hK] at ty
    obtain ⟨P, kx, hp, _⟩ := kit_of I ru ty
    exact ⟨_, kx.ty _ _ I.kIn hp, Eo.nk q h2⟩
  cases e with
  | obj c' fs =>
    have hc : c' = c := of_decide_eq_true ok
    subst hc
    obtain ⟨b, dx, vs, rfl, h1, h2, h3⟩ := obj_inv r
    obtain rfl : u = Value.ref b := ru
    obtain ⟨mB, J, _⟩ := ins_get I.hok (fz _ _ h1)
    obtain ⟨od, J, _⟩ := J.look
    exact ⟨_, J.type, by simp [PySem.W.notFirst]⟩
  | non => exact kinds rfl (by simp)
  | bl b => exact kinds rfl (by simp)
  | int b => exact kinds rfl (by simp)
  | str b => exact kinds rfl (by simp)
  | tup b => exact kinds rfl (by simp)
  | lst b => exact kinds rfl (by simp)
  | _ => cases ok
theorem de_eqOwn {c : Nat} {f : Addr} {Φ : List D → List D → Res D} (o : Okc X Z k) (Eo : EqOwn X.K Z.Y c f) (F : FnC X.prog X.w X.K X.mg X.base k f Z.Y Φ) (hm : behindInMarks .Eq b = false) (ha : DE X Z a φ) (hb : DE X Z b ψ) : DE X Z (.Compare a [.Eq] [b] pos) (eqOwnE c Φ φ ψ) := by
  obtain ⟨t, q, rd⟩ := ha
  obtain ⟨t2, q2, rd2⟩ := hb
  obtain ⟨fd, ps, F, hk, hbi⟩ := F.ex
  let r : R2 := fun x y H Q => ∃ (G : Hp) (fs : List D) (e : D) (st : List D), Le G H ∧ Rp Z.Y G (.obj c fs) x ∧ Rp Z.Y G e y ∧ okEq c e = true ∧ spD Z.Y Φ [x, y] H Q (fun _ _ _ => False)
  have hr : OpR X (compareOp .Eq) r := by
    intro pins s σ H x y v u Q I rx ry h
    obtain ⟨G, fs, e, st, fz, r1, r2, ok, sp⟩ := h
    obtain ⟨tb, lt, nf⟩ := eq_ty I Eo o.K fz r2 ry ok
    obtain ⟨a0, dx, vs, rfl, h1, h2, h3⟩ := obj_inv r1
    obtain rfl : v = Value.ref a0 := rx
    obtain ⟨mA, J, _⟩ := ins_get I.hok (fz _ _ h1)
    obtain ⟨od, J, _⟩ := J.look
    obtain ⟨m, hF⟩ := I.fr
    show wpAny _ _ (richCompare .Eq (.ref a0) u) _ _ _
    refine PySem.W.cmp_K (op := .Eq) (tb := tb) o.room.units0 hF I.ok.mod.kin J lt nf Eo.hs Eo.hf ?_
    have hx : PassesAt (L2.CX X.prog X.w) X σ (fun _ _ _ => False) := fun _ _ _ _ _ _ c => by
      obtain ⟨_, _, _, _, _, _, _, _, _, _, _, _, z⟩ := c
      exact z.elim
    refine wpAny_mono (run_fnSG (us := [.ref a0, u]) (vs := [.ref a0, y]) (E := fun _ _ _ _ => False) F o.room o.gd hbi hx I (.cons rfl (.cons ry .nil)) sp) (fun w s' z => ?_) fun _ _ x => x
    obtain ⟨z', H', I', rz, qz⟩ := z
    exact SlX.cmpback rz ⟨z', H', I', rz, qz⟩
  refine ⟨_, pe_cmpR hr q q2 hm, fun σ H G env st Q er po => ?_⟩
  refine rd σ H G env st _ er (Post.bind po fun d st1 v G1 H1 e1 x row rv po1 => ?_)
  refine rd2 σ H1 G1 env st1 _ (er.ext x row) (Post.bind po1 fun d2 st2 v2 G2 H2 e2 x2 row2 rv2 po2 => ?_)
  cases d with
  | obj c' fs =>
    dsimp only at po2
    split at po2
    · rename_i hc
      obtain ⟨rfl, ok⟩ := hc
      cases hΦ : Φ [.obj c' fs, d2] st2 with
      | ok u st3 =>
        cases u with
        | bl bb =>
          rw [hΦ] at po2
          have rv1 : Rp Z.Y G2 (.obj c' fs) v := Rp.mono x2.g rv
          refine ⟨G2, fs, d2, st2, x2.f, rv1, rv2, ok, Z.Y.ρ, G2, st2, [.obj c' fs, d2], RpL.cons rv1 (RpL.cons rv2 RpL.nil), x2.f, row2, ?_⟩
          rw [hΦ]
          exact po2
        | _ => rw [hΦ] at po2; exact po2.elim
      | exc => rw [hΦ] at po2; exact po2.elim
      | bad => rw [hΦ] at po2; exact po2.elim
    · exact po2.elim
  | _ => exact po2.elim
/-! ### sorted(xs), xs a list of pairs of ints -/
def rSortedPA (K : PySem.W.Frag) : List V → Hp → VK → Prop := fun vs H Q => ∃ (a : Addr) (xs : List V) (k : V → Int × Int), vs = [V.ref a] ∧ SqL K H a xs ∧ (∀ x ∈ xs, ∃ t, x = V.ref t ∧ SqT K H t [.int (k x).1, .int (k x).2]) ∧
  ∀ ys p, SrtO.Srtd (ltP k) ys → ys.Perm xs → H p = none → Q (.ref p) (upd H p (.lst ys))
theorem cr_sortedPA : CallR X (.builtin "sorted") (rSortedPA X.K) := by
  intro pins s σ H vs us Q I r h
  obtain ⟨a, xs, k, rfl, hs, hx, q⟩ := h
  obtain ⟨its, rv, hl, hz⟩ := I.list hs
  obtain ⟨u, rfl, ru⟩ := vals1 r
  obtain rfl : u = Value.ref a := ru
  obtain ⟨e1, e2⟩ := refs_back rv fun x m => by
    obtain ⟨t, e, _⟩ := hx x m
    exact ⟨t, e⟩
  refine SrtO.sorted_pairsO (k := fun u => k (backV u)) hl.isList (by rw [← rv.length]; exact hz) (fun v hv => ?_) fun h' d out h1 h2 kp hd hn => ?_
  · obtain ⟨t, rfl⟩ := e2 v hv
    have hm : V.ref t ∈ xs := by rw [e1]; exact List.mem_map.mpr ⟨_, hv, rfl⟩
    obtain ⟨t', e, ht⟩ := hx _ hm
    cases e
    obtain ⟨its2, r2, ⟨o, ho, hc, n, hd⟩, _⟩ := I.tuple ht
    obtain ⟨u1, u2, rfl, ri, rj⟩ := vals2 r2
    obtain ⟨t1, rfl⟩ := ri
    obtain ⟨t2, rfl⟩ := rj
    exact ⟨t, o, t1, t2, n, rfl, ho, hc, hd⟩
  · have h3 : ∀ u ∈ out, ∃ a, u = Value.ref a := fun u hu => e2 u (h2.perm.mem_iff.mp hu)
    obtain ⟨n, hn⟩ := hn
    have hb : (out.map backV).Perm xs := by
      rw [e1]
      exact h2.perm.map backV
    refine ⟨.ref d, upd H d (.lst (out.map backV)), I.laid (t' := s.toks) kp hd ⟨?_, out, n, vals_back h3, hn⟩, rfl, q _ d (SrtO.srtd_map h1) hb (I.hok.fresh hd)⟩
    rw [hb.length_eq]
    exact hz
def pairOf : D → Option (Int × Int)
  | .tup [.int i, .int j] => some (i, j)
  | _ => none
def pairsOf : List D → Option (List (Int × Int))
  | [] => some []
  | d :: ds => match pairOf d, pairsOf ds with
    | some p, some ps => some (p :: ps)
    | _, _ => none
def pairD (p : Int × Int) : D := .tup [.int p.1, .int p.2]
def leP (p q : Int × Int) : Bool := !SrtO.lexB q p
def sortP (ps : List (Int × Int)) : List (Int × Int) := ps.mergeSort leP
theorem leP_trans (a b c : Int × Int) (h1 : leP a b = true) (h2 : leP b c = true) : leP a c = true := by
  unfold leP at *
  simp only [Bool.not_eq_true'] at *
  have a := SrtO.lexB_no.mp h1
  have b := SrtO.lexB_no.mp h2
  refine SrtO.lexB_no.mpr ?_
  omega
theorem leP_total (a b : Int × Int) : (leP a b || leP b a) = true := by
  unfold leP
  cases h1 : SrtO.lexB b a with
  | false => rfl
  | true =>
    cases h2 : SrtO.lexB a b with
    | false => rfl
    | true =>
      have a := SrtO.lexB_iff.mp h1
      have b := SrtO.lexB_iff.mp h2
      omega
theorem leP_anti {a b : Int × Int} (h1 : leP a b = true) (h2 : leP b a = true) : a = b := by
  unfold leP at *
  simp only [Bool.not_eq_true'] at *
  have x := SrtO.lexB_no.mp h1
  have y := SrtO.lexB_no.mp h2
  apply Prod.ext <;> omega
/-- a sorted rearrangement is the one -/
theorem sortP_uniq {ps qs : List (Int × Int)} (h : qs.Perm ps) (s : qs.Pairwise fun a b => leP a b = true) : qs = sortP ps :=
  List.Perm.eq_of_pairwise (fun _ _ _ _ h1 h2 => leP_anti h1 h2) s (List.pairwise_mergeSort leP_trans leP_total ps) (h.trans (List.mergeSort_perm ps leP).symm)
def sortE (φ : DEnv → List D → Res D) (env : DEnv) (st : List D) : Res D := (φ env st).bind fun d st1 => match d with
  | .lst ds => ofO ((pairsOf ds).map fun ps => .lst ((sortP ps).map pairD)) st1
  | _ => .bad
theorem pairOf_eq {d : D} {p : Int × Int} (h : pairOf d = some p) : d = pairD p := by
  unfold pairOf at h
  split at h
  · cases h; rfl
  · cases h
/-- the pairs, by the list's items -/
def PrAt (K : PySem.W.Frag) (H : Hp) (x : V) (p : Int × Int) : Prop := ∃ t, x = V.ref t ∧ SqT K H t [.int p.1, .int p.2]
def rSortedD (K : PySem.W.Frag) : List V → Hp → VK → Prop := fun vs H Q => ∃ (a : Addr) (xs : List V) (ps : List (Int × Int)), vs = [V.ref a] ∧ SqL K H a xs ∧ xs.length = ps.length ∧ (∀ q ∈ xs.zip ps, PrAt K H q.1 q.2) ∧
  ∀ ys p, ys.length = ps.length → (∀ q ∈ ys.zip (sortP ps), q ∈ xs.zip ps) → H p = none → Q (.ref p) (upd H p (.lst ys))
theorem zip_map {α β : Type} {k : α → β} : ∀ {xs : List α} {ps : List β}, xs.length = ps.length → (∀ q ∈ xs.zip ps, k q.1 = q.2) → ps = xs.map k
  | [], [], _, _ => rfl
  | [], _ :: _, h, _ => by cases h
  | _ :: _, [], h, _ => by cases h
  | x :: xs, p :: ps, h, hk => by
    have h1 : k x = p := hk (x, p) (by simp)
    have h2 := zip_map (k := k) (xs := xs) (ps := ps) (by simpa using h) fun q hq => hk q (by simp [hq])
    rw [List.map_cons, h1, ← h2]
open Classical in
theorem cr_sortedD : CallR X (.builtin "sorted") (rSortedD X.K) := by
  intro pins s σ H vs us Q I r h
  obtain ⟨a, xs, ps, rfl, hs, hl, hp, q⟩ := h
  have uniq : ∀ {x : V} {p p' : Int × Int}, PrAt X.K H x p → PrAt X.K H x p' → p = p' := fun {x p p'} ⟨t, e, h1⟩ ⟨t', e', h2⟩ => by
    rw [e] at e'
    cases e'
    have z := I.tuple_inj h1 h2
    simp only [List.cons.injEq, V.int.injEq, and_true] at z
    exact Prod.ext z.1 z.2
  let k : V → Int × Int := fun x => if h : ∃ p, PrAt X.K H x p then Classical.choose h else (0, 0)
  have kp : ∀ {x : V} {p : Int × Int}, PrAt X.K H x p → k x = p := fun {x p} h => by
    have e : ∃ p, PrAt X.K H x p := ⟨p, h⟩
    show (if h : ∃ p, PrAt X.K H x p then Classical.choose h else (0, 0)) = p
    rw [dif_pos e]
    exact uniq (Classical.choose_spec e) h
  have ek : ps = xs.map k := zip_map hl fun q hq => kp (hp q hq)
  have mem : ∀ x ∈ xs, (x, k x) ∈ xs.zip ps := fun x hx => by
    rw [ek]
    obtain ⟨i, hi, e⟩ := List.mem_iff_getElem.mp hx
    refine List.mem_iff_getElem.mpr ⟨i, by simpa using hi, ?_⟩
    simp [e]
  refine cr_sortedPA pins s σ H [V.ref a] us Q I r ⟨a, xs, k, rfl, hs, fun x hx => hp _ (mem x hx), fun ys p h1 h2 h3 => q ys p (by rw [h2.length_eq, hl]) (fun z hz => ?_) h3⟩
  have es : ys.map k = sortP ps := by
    rw [ek]
    refine sortP_uniq (h2.map k) (List.pairwise_map.mpr (h1.imp fun {u v} h => ?_))
    unfold leP
    have h : ltP k v u = false := h
    rw [show SrtO.lexB (k v) (k u) = false from h]
    rfl
  rw [← es] at hz
  obtain ⟨i, hi, e⟩ := List.mem_iff_getElem.mp hz
  have hi' : i < ys.length := by simpa using hi
  have ez : z = (ys[i], k ys[i]) := by rw [← e]; simp
  rw [ez]
  exact mem _ (h2.mem_iff.mp (List.getElem_mem hi'))
theorem pairs_at {Y : Lay} {G : Hp} : ∀ {ds : List D} {vs : List V} {ps : List (Int × Int)}, RpL Y G ds vs → pairsOf ds = some ps → vs.length = ps.length ∧ ∀ q ∈ vs.zip ps, Rp Y G (pairD q.2) q.1
  | [], _, _, h, e => by rw [h.nil_inv]; cases e; exact ⟨rfl, fun q hq => by simp at hq⟩
  | d :: ds, _, ps, h, e => by
    obtain ⟨v0, r, rfl, h0, t⟩ := h.cons_inv
    unfold pairsOf at e
    split at e
    · rename_i p qs e1 e2
      cases e
      obtain ⟨l, z⟩ := pairs_at t e2
      rw [pairOf_eq e1] at h0
      refine ⟨by simp [l], fun q hq => ?_⟩
      rw [List.zip_cons_cons] at hq
      rcases List.mem_cons.mp hq with rfl | hq
      · exact h0
      · exact z q hq
    · cases e
theorem pair_at {Y : Lay} {G : Hp} {p : Int × Int} {v : V} (h : Rp Y G (pairD p) v) : PrAt Y.K G v p := by
  obtain ⟨a, us, rfl, h1, h2⟩ := tup_inv h
  obtain ⟨x, r1, rfl, x1, h3⟩ := h2.cons_inv
  obtain ⟨y, r2, rfl, y1, h4⟩ := h3.cons_inv
  rw [h4.nil_inv, int_inv x1, int_inv y1] at h1
  exact ⟨a, rfl, h1⟩
theorem rpl_zip {Y : Lay} {G : Hp} : ∀ {vs : List V} {ps : List (Int × Int)}, vs.length = ps.length → (∀ q ∈ vs.zip ps, Rp Y G (pairD q.2) q.1) → RpL Y G (ps.map pairD) vs
  | [], [], _, _ => RpL.nil
  | [], _ :: _, h, _ => by cases h
  | _ :: _, [], h, _ => by cases h
  | v :: vs, p :: ps, h, hq => RpL.cons (hq (v, p) (by simp)) (rpl_zip (by simpa using h) fun q hz => hq q (by simp [hz]))
theorem len_sortP (ps : List (Int × Int)) : (sortP ps).length = ps.length := (List.mergeSort_perm ps leP).length_eq
theorem de_sort {x : Str} (o : Okc X Z k) (hx : x = "sorted") (hg : Gl X x) (hm : X.mg x = none) (ha : DE X Z a φ) (hs : starEach [a] X.env = [(false, eval a X.env)]) : DE X Z (.Call (.Name x p) [a] [] pos) (sortE φ) := by
  subst hx
  obtain ⟨t, q, rd⟩ := ha
  refine ⟨_, pe_callB cr_sortedD hg hm (by decide +kernel) (pa_cons q pa_nil hs) (by decide +kernel) (by decide +kernel) hs rfl, fun σ H G env st Q er po => ?_⟩
  refine rd σ H G env st _ er (Post.bind po fun d st1 v G1 H1 e1 x1 row rv po1 => ?_)
  cases d with
  | lst ds =>
    dsimp only at po1
    cases hp : pairsOf ds with
    | none => rw [hp] at po1; exact po1.elim
    | some ps =>
      rw [hp] at po1
      obtain ⟨a0, vs, rfl, h1, h2⟩ := lst_inv rv
      obtain ⟨hl, hz⟩ := pairs_at h2 hp
      refine ⟨a0, vs, ps, rfl, by rw [← o.K]; exact SqL.of (x1.f _ _ h1), hl, fun q hq => ?_, fun ys p h3 h4 h5 => ?_⟩
      · obtain ⟨t, e, h⟩ := pair_at (hz q hq)
        rw [o.K] at h
        exact ⟨t, e, SqT.mono x1.f h⟩
      · refine Post.new (R := rV Z.Y) po1 x1.f row h5 (rp_lst upd_same ?_)
        exact rpl_zip (by rw [h3, len_sortP]) fun q hq => Rp.mono (Ext.new (M := Z.Y.M) x1.f h5).g (hz q (h4 q hq))
  | _ => exact po1.elim
end
end DL

set_option Elab.async false
set_option linter.all false
set_option maxRecDepth 100000
/-! Within an except suite: the caught error, a def that is called there and raises nothing. -/
namespace DL
open PySem PySem.Spec PyProof.Rows L2

/-! ### values without the caught error -/
mutual
def plnD : D → Bool
  | .non => true
  | .bl _ => true
  | .int _ => true
  | .str _ => true
  | .tup ds => plnL ds
  | .lst ds => plnL ds
  | .scr ds => plnL ds
  | .kon ds => plnL ds
  | .dct ks ws => plnL ks && plnL ws
  | .obj _ fs => plnL fs
  | .fn _ => true
  | .row => true
  | .exn _ _ => false
  | .exo _ fs => plnL fs
def plnL : List D → Bool
  | [] => true
  | d :: ds => plnD d && plnL ds
end
section
variable {Y : Lay} {G : Hp} {z : Option (Addr × Option Addr × Nat)}
mutual
theorem rp_toX (h0 : Y.xa = none) : ∀ {d : D} {v : V}, Rp Y G d v → plnD d = true ∧ Rp { Y with xa := z } G d v
  | .non, v, h => by rw [Rp] at h ⊢; exact ⟨rfl, h⟩
  | .bl b, v, h => by rw [Rp] at h ⊢; exact ⟨rfl, h⟩
  | .int i, v, h => by rw [Rp] at h ⊢; exact ⟨rfl, h⟩
  | .str l, v, h => by rw [Rp] at h ⊢; exact ⟨rfl, h⟩
  | .tup ds, v, h => by
    rw [Rp] at h ⊢
    obtain ⟨a, vs, h1, h2, h3⟩ := h
    obtain ⟨n, r⟩ := rpl_toX h0 h3
    exact ⟨by rw [plnD]; exact n, a, vs, h1, h2, r⟩
  | .lst ds, v, h => by
    rw [Rp] at h ⊢
    obtain ⟨a, vs, h1, h2, h3⟩ := h
    obtain ⟨n, r⟩ := rpl_toX h0 h3
    exact ⟨by rw [plnD]; exact n, a, vs, h1, h2, r⟩
  | .scr ds, v, h => by
    rw [Rp] at h ⊢
    obtain ⟨a, vs, h1, h2, h3⟩ := h
    obtain ⟨n, r⟩ := rpl_toX h0 h3
    exact ⟨by rw [plnD]; exact n, a, vs, h1, h2, r⟩
  | .kon ds, v, h => by
    rw [Rp] at h ⊢
    obtain ⟨a, vs, h1, h2, h3, h4⟩ := h
    obtain ⟨n, r⟩ := rpl_toX h0 h4
    exact ⟨by rw [plnD]; exact n, a, vs, h1, h2, h3, r⟩
  | .dct ks ws, v, h => by
    rw [Rp] at h ⊢
    obtain ⟨a, o, vs, us, h1, h2, h3, h4, h5⟩ := h
    obtain ⟨n, r⟩ := rpl_toX h0 h4
    obtain ⟨n2, r2⟩ := rpl_toX h0 h5
    exact ⟨by rw [plnD, n, n2]; rfl, a, o, vs, us, h1, h2, h3, r, r2⟩
  | .obj c fs, v, h => by
    rw [Rp] at h ⊢
    obtain ⟨a, dx, vs, h1, h2, h3, h4⟩ := h
    obtain ⟨n, r⟩ := rpl_toX h0 h4
    exact ⟨by rw [plnD]; exact n, a, dx, vs, h1, h2, h3, r⟩
  | .fn f, v, h => by rw [Rp] at h ⊢; exact ⟨rfl, h⟩
  | .row, v, h => by rw [Rp] at h ⊢; exact ⟨rfl, h⟩
  | .exn c fs, v, h => by
    rw [Rp] at h
    obtain ⟨a, dx, vs, h1, h2, _⟩ := h
    rw [h0] at h2; cases h2
  | .exo c fs, v, h => by
    rw [Rp] at h ⊢
    obtain ⟨a, d, vs, h1, h2, h3, h4, h5, h6⟩ := h
    obtain ⟨n, r⟩ := rpl_toX h0 h6
    exact ⟨by rw [plnD]; exact n, a, d, vs, h1, h2, h3, h4, h5, r⟩
theorem rpl_toX (h0 : Y.xa = none) : ∀ {ds : List D} {vs : List V}, RpL Y G ds vs → plnL ds = true ∧ RpL { Y with xa := z } G ds vs
  | [], vs, h => by rw [RpL] at h ⊢; exact ⟨rfl, h⟩
  | d :: ds, vs, h => by
    rw [RpL] at h ⊢
    obtain ⟨v, r, h1, h2, h3⟩ := h
    obtain ⟨n, q⟩ := rp_toX h0 h2
    obtain ⟨n2, q2⟩ := rpl_toX h0 h3
    exact ⟨by rw [plnL, n, n2]; rfl, v, r, h1, q, q2⟩
end
mutual
theorem rp_unX : ∀ {d : D} {v : V}, plnD d = true → Rp { Y with xa := z } G d v → Rp Y G d v
  | .non, v, _, h => by rw [Rp] at h ⊢; exact h
  | .bl b, v, _, h => by rw [Rp] at h ⊢; exact h
  | .int i, v, _, h => by rw [Rp] at h ⊢; exact h
  | .str l, v, _, h => by rw [Rp] at h ⊢; exact h
  | .tup ds, v, n, h => by
    rw [Rp] at h ⊢
    rw [plnD] at n
    obtain ⟨a, vs, h1, h2, h3⟩ := h
    exact ⟨a, vs, h1, h2, rpl_unX n h3⟩
  | .lst ds, v, n, h => by
    rw [Rp] at h ⊢
    rw [plnD] at n
    obtain ⟨a, vs, h1, h2, h3⟩ := h
    exact ⟨a, vs, h1, h2, rpl_unX n h3⟩
  | .scr ds, v, n, h => by
    rw [Rp] at h ⊢
    rw [plnD] at n
    obtain ⟨a, vs, h1, h2, h3⟩ := h
    exact ⟨a, vs, h1, h2, rpl_unX n h3⟩
  | .kon ds, v, n, h => by
    rw [Rp] at h ⊢
    rw [plnD] at n
    obtain ⟨a, vs, h1, h2, h3, h4⟩ := h
    exact ⟨a, vs, h1, h2, h3, rpl_unX n h4⟩
  | .dct ks ws, v, n, h => by
    rw [Rp] at h ⊢
    rw [plnD, Bool.and_eq_true] at n
    obtain ⟨a, o, vs, us, h1, h2, h3, h4, h5⟩ := h
    exact ⟨a, o, vs, us, h1, h2, h3, rpl_unX n.1 h4, rpl_unX n.2 h5⟩
  | .obj c fs, v, n, h => by
    rw [Rp] at h ⊢
    rw [plnD] at n
    obtain ⟨a, dx, vs, h1, h2, h3, h4⟩ := h
    exact ⟨a, dx, vs, h1, h2, h3, rpl_unX n h4⟩
  | .fn f, v, _, h => by rw [Rp] at h ⊢; exact h
  | .row, v, _, h => by rw [Rp] at h ⊢; exact h
  | .exn c fs, v, n, h => by cases n
  | .exo c fs, v, n, h => by
    rw [Rp] at h ⊢
    rw [plnD] at n
    obtain ⟨a, d, vs, h1, h2, h3, h4, h5, h6⟩ := h
    exact ⟨a, d, vs, h1, h2, h3, h4, h5, rpl_unX n h6⟩
theorem rpl_unX : ∀ {ds : List D} {vs : List V}, plnL ds = true → RpL { Y with xa := z } G ds vs → RpL Y G ds vs
  | [], vs, _, h => by rw [RpL] at h ⊢; exact h
  | d :: ds, vs, n, h => by
    rw [RpL] at h ⊢
    rw [plnL, Bool.and_eq_true] at n
    obtain ⟨v, r, h1, h2, h3⟩ := h
    exact ⟨v, r, h1, rp_unX n.1 h2, rpl_unX n.2 h3⟩
end
theorem row_toX {H : Hp} {st : List D} (h0 : Y.xa = none) (h : RowR Y G st H) : plnL st = true ∧ RowR { Y with xa := z } G st H := by
  obtain ⟨vs, h1, h2, h3, h4, h5⟩ := h
  obtain ⟨n, r⟩ := rpl_toX h0 h3
  exact ⟨n, vs, h1, h2, r, h4, h5⟩
theorem row_unX {H : Hp} {st : List D} (n : plnL st = true) (h : RowR { Y with xa := z } G st H) : RowR Y G st H := by
  obtain ⟨vs, h1, h2, h3, h4, h5⟩ := h
  exact ⟨vs, h1, h2, rpl_unX n h3, h4, h5⟩
end
/-! ### what the rules ask there -/
structure OkH (X : Cx) (Z : Ct) : Prop where
  K : Z.Y.K = X.K
  un : X.A.units + 200 < cLine
  gd : X.A.guards = some []
  nd : X.N.Nodup
  pin : ∃ (p : Addr × Obj) (dx : Option Addr) (c : Nat), Z.Y.xa = some (p.1, dx, c) ∧ p ∈ X.pn ∧ Zc (.ref (Z.Y.C c)) dx p.2 ∧ ∃ vs, p.2.data = .fields vs
section
variable {X : Cx} {Z : Ct} {a b : Expr} {φ ψ : DEnv → List D → Res D} {pos p p2 apos : Pos} {x y : Str}
theorem inst_h {pins : List (Addr × Obj)} {σ : L2.St} {H : Hp} {s : Shared} (I : Inv X pins σ H s) {a C : Addr} {oe : Obj} {d : Option Addr} {ks : List Str} {vs : List V} (he : s.heap.get? a = some oe) (hz : Zc (.ref C) d oe) (hf : ∃ us, oe.data = .fields us) (hd : XdR H d ks vs) :
    ∃ od, PySem.W.InstAt s.heap a oe C od ∧ (∀ dx, d = some dx → ∃ ob, od = some ob ∧ ∃ mA : Str → Option Value, (∀ n, PySem.W.lookIn n ob = some (mA n)) ∧ ∀ n, RelO ((ks.zip vs).lookup n) (mA n)) := by
  obtain ⟨us, hf⟩ := hf
  cases d with
  | none => exact ⟨none, ⟨he, hz.1, by unfold PySem.W.notCls; rw [hf] <;> rfl, by rw [hz.2]; trivial⟩, fun dx z => by cases z⟩
  | some dx =>
    have hx : ObjOk X.prog X.w H s.heap dx (.xd (ks.zip vs)) := I.hok dx _ hd
    obtain ⟨mA, hns, hr⟩ := hx
    obtain ⟨od, ho, hl⟩ := lookIn_ns hns
    exact ⟨some od, ⟨he, hz.1, by unfold PySem.W.notCls; rw [hf] <;> rfl, by rw [hz.2]; exact ho⟩, fun _ _ => ⟨od, rfl, mA, hl, hr⟩⟩
theorem inst_of {pins : List (Addr × Obj)} {σ : L2.St} {H : Hp} {s : Shared} (I : Inv X pins σ H s) {q : Addr × Obj} {C : Addr} {d : Option Addr} {ks : List Str} {vs : List V} (hq : q ∈ X.pn) (hz : Zc (.ref C) d q.2) (hf : ∃ vs, q.2.data = .fields vs) (hd : XdR H d ks vs) :
    ∃ od, PySem.W.InstAt s.heap q.1 q.2 C od ∧ (∀ dx, d = some dx → ∃ ob, od = some ob ∧ ∃ mA : Str → Option Value, (∀ n, PySem.W.lookIn n ob = some (mA n)) ∧ ∀ n, RelO ((ks.zip vs).lookup n) (mA n)) :=
  inst_h I (I.pin q (List.mem_append_left _ hq)).1 hz hf hd
/-! ### isinstance -/
def rIsX (X : Cx) : List V → Hp → VK → Prop := fun xs H Q => ∃ (q : Addr × Obj) (C : Addr) (d : Option Addr) (ks : List Str) (vs : List V) (c : V) (cv : Value) (b : Bool), xs = [.ref q.1, c] ∧ q ∈ X.pn ∧ Zc (.ref C) d q.2 ∧ (∃ vs, q.2.data = .fields vs) ∧ XdR H d ks vs ∧ ExcC X.K C ∧
  (∀ u, RelV c u → u = cv) ∧ PySem.W.kitOne X.K (.ref C) cv = some b ∧ Q (.bl b) H
theorem call_isX : CallR X (.builtin "isinstance") (rIsX X) := by
  intro pins s σ H xs us Q I r h
  obtain ⟨q, C, d, ks, vs, c, cv, b, rfl, hq, hz, hf, hd, T, hcv, e, hQ⟩ := h
  cases r with
  | cons rx rr =>
    cases rr with
    | cons rt rr =>
      cases rr
      cases rx
      have ec := hcv _ rt
      subst ec
      obtain ⟨od, J, _⟩ := inst_of I hq hz hf hd
      have hcl : (PySem.W.clsIn X.K C).isSome = true := by
        obtain ⟨cd, h, _⟩ := PySem.W.any_some T.hd
        rw [h]; rfl
      exact PySem.W.kia_one (PySem.W.kitx_exc (od := od) hcl T.hg T.hk T.hs T.ha T.hn T.ht T.hm) I.kIn J e (fun z => nomatch z) fun tk => ⟨.bl b, H, I.kept (t' := tk) fun _ _ z => z, rfl, hQ⟩
/-- isinstance(e, C): f tells it by e's class -/
def isX (f : Nat → Option Bool) (d : D) : Option Bool := match d with
  | .exn c _ => f c
  | _ => none
theorem de_isX {f : Nat → Option Bool} {cw : V} {cv : Value} (o : OkH X Z) (hx : x = "isinstance") (hg : Gl X x) (hm : X.mg x = none) (hb : PE X b (tC cw)) (hu : ∀ u, RelV cw u → u = cv) (hc : ∀ c r, f c = some r → ExcC X.K (Z.Y.C c) ∧ PySem.W.kitOne X.K (.ref (Z.Y.C c)) cv = some r)
    (ha : DE X Z a φ) (hs : starEach [a, b] X.env = (false, eval a X.env) :: starEach [b] X.env) (hs2 : starEach [b] X.env = [(false, eval b X.env)]) (hpl : (backTo pos (starEach [b] X.env)).any (·.1) = false) :
    DE X Z (.Call (.Name x p) [a, b] [] pos) (isE (isX f) φ) := by
  subst hx
  obtain ⟨t, q, rd⟩ := ha
  refine ⟨_, pe_callB call_isX hg hm boot_isinstance (pa_cons q (pa_cons hb pa_nil hs2) hs) (by decide) (by decide) hs hpl, fun σ H G env st Q er po => ?_⟩
  refine rd σ H G env st _ er (Post.bind po fun d st1 v G1 H1 e x row rv po1 => ?_)
  cases hi : isX f d with
  | none => rw [hi] at po1; exact po1.elim
  | some r =>
    rw [hi] at po1
    cases d with
    | exn c fs =>
      obtain ⟨a0, dx, vs, rfl, h1, h2, h3, h4⟩ := exn_inv rv
      obtain ⟨pp, dx', c', e1, e2, e3, e4⟩ := o.pin
      rw [e1] at h1
      cases h1
      obtain ⟨T, k⟩ := hc _ r hi
      exact ⟨pp, _, _, _, _, cw, cv, r, rfl, e2, e3, e4, XdR.mono x.f h2, T, hu, k, Post.here (R := rV Z.Y) po1 x.f row (rp_bl r)⟩
    | _ => cases hi
/-! ### e.f -/
def tXfG (X : Cx) (n : Str) (te : TE) : TE := fun σ H Q => te σ H fun x H1 => ∃ (q : Addr × Obj) (C dx : Addr) (ks : List Str) (vs : List V) (v : V), x = .ref q.1 ∧ q ∈ X.pn ∧ Zc (.ref C) (some dx) q.2 ∧ (∃ vs, q.2.data = .fields vs) ∧ XdR H1 (some dx) ks vs ∧ XfC X.K C ∧ PySem.W.findIn X.K (.ref C) n = some none ∧
  (ks.zip vs).lookup n = some v ∧ Q v H1
theorem pe_xfG {te : TE} {n : Str} (he : PE X a te) (hb : attributeBase a n X.env (eval a X.env) = eval a X.env) : PE X (.Attribute a n pos) (tXfG X n te) := by
  refine ⟨fun pins s σ H Q I h => ?_⟩
  refine attr_of hb (thn (he.run pins s σ H _ I h) fun u s1 hh => ?_)
  obtain ⟨x, H1, I1, rx, q, C, dx, ks, vs, v, ex, hq, hz, hf, hd, T, hno, l, hQ⟩ := hh
  subst ex
  obtain rfl : u = Value.ref q.1 := rx
  obtain ⟨od, J, w⟩ := inst_of I1 hq hz hf hd
  obtain ⟨ob, rfl, mA, hl, hr⟩ := w dx rfl
  obtain ⟨u, hu, ru⟩ := RelO.some_of (v := v) (o := mA n) (by rw [← l]; exact hr n)
  exact HandSPX.exc_get I1.kIn J T.ga T.gg T.exC (PySem.W.findObj_own T.hdC hno rfl (by rw [hl, hu])) (handed_of ru) ⟨v, H1, I1.tok _, ru, hQ⟩
theorem lookup_zipX : ∀ {ks : List Str} {vs : List V} {i : Nat} {k : Str} {v : V}, ks.Nodup → ks[i]? = some k → vs[i]? = some v → (ks.zip vs).lookup k = some v
  | [], _, _, _, _, _, h, _ => by simp at h
  | _ :: _, [], _, _, _, _, _, h => by simp at h
  | a :: ks, w :: vs, 0, k, v, _, h1, h2 => by
    simp at h1 h2
    subst h1 h2
    simp
  | a :: ks, w :: vs, i + 1, k, v, nd, h1, h2 => by
    have h1 : ks[i]? = some k := by simpa using h1
    have h2 : vs[i]? = some v := by simpa using h2
    have ne : (k == a) = false := by
      have := (List.nodup_cons.mp nd).1
      simp only [beq_eq_false_iff_ne]
      exact fun z => this (z ▸ List.mem_of_getElem? h1)
    rw [List.zip_cons_cons, List.lookup_cons, ne]
    exact lookup_zipX (List.nodup_cons.mp nd).2 h1 h2
def xfE (ix : Nat → Option Nat) (φ : DEnv → List D → Res D) (env : DEnv) (st : List D) : Res D := (φ env st).bind fun d st1 => match d with
  | .exn c fs => ofO ((ix c).bind fun i => fs[i]?) st1
  | _ => .bad
theorem de_xf {ix : Nat → Option Nat} {n : Str} (o : OkH X Z) (ha : DE X Z a φ) (hc : ∀ c i, ix c = some i → XfC X.K (Z.Y.C c) ∧ PySem.W.findIn X.K (.ref (Z.Y.C c)) n = some none ∧ (Z.Y.fl c)[i]? = some n ∧ (Z.Y.fl c).Nodup) (hb : attributeBase a n X.env (eval a X.env) = eval a X.env) :
    DE X Z (.Attribute a n pos) (xfE ix φ) := by
  obtain ⟨t, q, rd⟩ := ha
  refine ⟨_, pe_xfG q hb, fun σ H G env st Q er po => ?_⟩
  refine rd σ H G env st _ er (Post.bind po fun d st1 v G1 H1 e x row rv po1 => ?_)
  cases d with
  | exn c fs =>
    obtain ⟨a0, dx, vs, rfl, h1, h2, h3, h4⟩ := exn_inv rv
    obtain ⟨pp, dx', c', e1, e2, e3, e4⟩ := o.pin
    rw [e1] at h1
    cases h1
    dsimp only at po1
    cases hi : ix c with
    | none => rw [hi] at po1; exact po1.elim
    | some i =>
      rw [hi, Option.bind_some] at po1
      cases hf : fs[i]? with
      | none => rw [hf] at po1; exact po1.elim
      | some d =>
        rw [hf] at po1
        obtain ⟨T, k1, k2, k3⟩ := hc _ i hi
        obtain ⟨v, hv, rv2⟩ := h4.get hf
        cases dx with
        | some dx => exact ⟨pp, _, dx, _, vs, v, rfl, e2, e3, e4, XdR.mono x.f h2, T, k1, lookup_zipX k3 k2 hv, Post.here (R := rV Z.Y) po1 x.f row rv2⟩
        | none =>
          have h2 : Z.Y.fl c = [] := h2
          rw [h2] at k2
          cases k2
  | _ => exact po1.elim
/-! ### count, index of bools -/
theorem flat_bls : ∀ bs : List Bool, (bs.map V.bl).all flatV = true
  | [] => rfl
  | b :: bs => by rw [List.map_cons, List.all_cons, flat_bls bs]; rfl
theorem eqV_bl (a b : Bool) : eqV (.bl a) (.bl b) = (a == b) := by cases a <;> cases b <;> rfl
def rCntB (K : PySem.W.Frag) : V → List V → Hp → VK → Prop := fun x xs H Q => ∃ (p : Addr) (bs : List Bool) (b : Bool), x = .ref p ∧ xs = [.bl b] ∧ SqL K H p (bs.map V.bl) ∧ Q (.int (bs.count b : Nat)) H
theorem countU {b : Bool} : ∀ {bs : List Bool} {us : List Value}, Vals (bs.map V.bl) us → us.countP (eqU (.bl b)) = bs.count b
  | [], _, .nil => rfl
  | a :: bs, u :: us, .cons r t => by
    rw [List.countP_cons, List.count_cons, countU t, eqU_of r rfl, eqV_bl]
theorem mt_countB : MtR X "list.count" (rCntB X.K) := by
  intro pins s σ H x xs v us Q I rx rxs h
  obtain ⟨p, bs, b, rfl, rfl, hs, q⟩ := h
  cases rx
  cases rxs with
  | cons ry rt =>
    rename_i uy ut
    cases rt
    obtain ⟨its, rv, ⟨⟨cls, dd, data, sl⟩, n, ho, hc, hdn, hd⟩, hlen⟩ := I.list hs
    simp only at hc hd
    subst hc hd
    refine call_meets PySem.F.slot_list_count ⟨_, ho, rfl⟩ PySem.F.entry_list_count (PySem.F.args_list_count_2 _ _)
      (SeqAt.list_countAt p its.toArray n dd sl uy (eqU (.bl b))) ⟨ho, fun y hy => mem_eqAt ry rfl rv (flat_bls bs) y (by simpa using hy), ?_⟩
    have ec : its.toArray.toList.countP (eqU (.bl b)) = bs.count b := countU rv
    refine ⟨.int (bs.count b : Nat), H, I.tok _, ⟨s.toks, ?_⟩, q⟩
    show Value.int ((its.toArray.toList.countP (eqU (.bl b)) : Nat) : Int) s.toks = Value.int ((bs.count b : Nat) : Int) s.toks
    rw [ec]
/-- x.count(b), x.index(b): x a list of bools -/
def countE (φ ψ : DEnv → List D → Res D) (env : DEnv) (st : List D) : Res D := (φ env st).bind fun d st1 => match d with
  | .lst ds => (ψ env st1).bind fun e st2 => match e with
    | .bl b => ofO ((blsOf ds).map fun bs => .int (bs.count b : Nat)) st2
    | _ => .bad
  | _ => .bad
theorem de_count {m : Str} {cpos : Pos} (hK : Z.Y.K = X.K) (hm : m = "count") (ha : DE X Z a φ) (hb : DE X Z b ψ) (M : McOk X a m b apos cpos) : DE X Z (.Call (.Attribute a m apos) [b] [] cpos) (countE φ ψ) := by
  subst hm
  obtain ⟨t, q, rd⟩ := ha
  obtain ⟨t2, q2, rd2⟩ := hb
  refine ⟨_, pe_bm (T := "list") (id := "list.count") PySem.F.plainAttrs_list PySem.F.slot_list_count PySem.F.type_list_count mt_countB q (pa_cons q2 pa_nil M.star) M.base M.few M.line M.star M.plain, fun σ H G env st Q er po => ?_⟩
  refine rd σ H G env st _ er (Post.bind po fun d st1 v G1 H1 e x row rv po1 => ?_)
  cases d with
  | lst ds =>
    obtain ⟨a0, vs, rfl, h1, h2⟩ := lst_inv rv
    refine ⟨.inl ⟨rfl, vs, SqL.of (x.f _ _ h1)⟩, rd2 σ H1 G1 env st1 _ (er.ext x row) (Post.bind po1 fun d2 st2 v2 G2 H2 e2 x2 row2 rv2 po2 => ?_)⟩
    cases d2 with
    | bl b =>
      dsimp only at po2
      cases hs : blsOf ds with
      | none => rw [hs] at po2; exact po2.elim
      | some bs =>
        rw [hs] at po2
        have ev := bls_rp h2 hs
        subst ev
        exact ⟨a0, bs, b, rfl, by rw [bl_inv rv2], SqL.of (x2.f _ _ (x2.g _ _ h1)), Post.here (R := rV Z.Y) po2 x2.f row2 (rp_int _)⟩
    | _ => exact po2.elim
  | _ => exact po1.elim
def indexBE (φ ψ : DEnv → List D → Res D) (env : DEnv) (st : List D) : Res D := (φ env st).bind fun d st1 => match d with
  | .lst ds => (ψ env st1).bind fun e st2 => match e with
    | .bl b => ofO ((blsOf ds).bind fun bs => if bs.idxOf b < bs.length then some (.int (bs.idxOf b : Nat)) else none) st2
    | _ => .bad
  | _ => .bad
theorem de_indexB {m : Str} {cpos : Pos} (hK : Z.Y.K = X.K) (hm : m = "index") (ha : DE X Z a φ) (hb : DE X Z b ψ) (M : McOk X a m b apos cpos) : DE X Z (.Call (.Attribute a m apos) [b] [] cpos) (indexBE φ ψ) := by
  subst hm
  obtain ⟨t, q, rd⟩ := ha
  obtain ⟨t2, q2, rd2⟩ := hb
  refine ⟨_, pe_bm (T := "list") (id := "list.index") PySem.F.plainAttrs_list PySem.F.slot_list_index PySem.F.type_list_index mt_index q (pa_cons q2 pa_nil M.star) M.base M.few M.line M.star M.plain, fun σ H G env st Q er po => ?_⟩
  refine rd σ H G env st _ er (Post.bind po fun d st1 v G1 H1 e x row rv po1 => ?_)
  cases d with
  | lst ds =>
    obtain ⟨a0, vs, rfl, h1, h2⟩ := lst_inv rv
    refine ⟨.inl ⟨rfl, vs, SqL.of (x.f _ _ h1)⟩, rd2 σ H1 G1 env st1 _ (er.ext x row) (Post.bind po1 fun d2 st2 v2 G2 H2 e2 x2 row2 rv2 po2 => ?_)⟩
    cases d2 with
    | bl b =>
      dsimp only at po2
      cases hs : blsOf ds with
      | none => rw [hs] at po2; exact po2.elim
      | some bs =>
        rw [hs, Option.bind_some] at po2
        by_cases hi : bs.idxOf b < bs.length
        · rw [if_pos hi] at po2
          have ev := bls_rp h2 hs
          subst ev
          have hget : (bs.map V.bl)[bs.idxOf b]? = some (.bl b) := by
            rw [List.getElem?_map, List.getElem?_eq_getElem hi, List.getElem_idxOf]
            rfl
          refine ⟨a0, bs.map V.bl, .bl b, bs.idxOf b, .bl b, rfl, by rw [bl_inv rv2], SqL.of (x2.f _ _ (x2.g _ _ h1)), rfl, flat_bls bs, hget, by rw [eqV_bl]; exact beq_self_eq_true b, fun mm z' hmm hx => ?_, Post.here (R := rV Z.Y) po2 x2.f row2 (rp_int _)⟩
          rw [List.getElem?_map] at hx
          cases hl : bs[mm]? with
          | none => rw [hl] at hx; cases hx
          | some y =>
            rw [hl] at hx
            cases hx
            rw [eqV_bl]
            have hlt : mm < bs.length := (List.getElem?_eq_some_iff.mp hl).1
            have := List.not_of_lt_findIdx (p := (· == b)) (xs := bs) (i := mm) hmm
            rw [List.getElem?_eq_getElem hlt] at hl
            cases hl
            simpa using this
        · rw [if_neg hi] at po2
          exact po2.elim
    | _ => exact po2.elim
  | _ => exact po1.elim
/-! ### the rules' premises, there -/
theorem h_eq (o : OkH X Z) : CmpOK X Z .Eq oEq := ⟨_, op_eqD (by have := o.un; omega), by rw [← o.K]; exact od_eq⟩
theorem h_ne (o : OkH X Z) : CmpOK X Z .NotEq oNe := ⟨_, op_neD (by have := o.un; omega), by rw [← o.K]; exact od_ne⟩
theorem h_in (o : OkH X Z) (hm : behindInMarks .In b = false) (ha : DS X Z a φ) (hb : DS X Z b ψ) : DT X Z (.Compare a [.In] [b] pos) (tst (opV oIn φ ψ)) := dt_cmpV (op_inA (by have := o.un; omega)) (by rw [← o.K]; exact ov_in) hm ha hb
theorem h_ix (o : OkH X Z) (hs : PlainIx b) (ha : DS X Z a φ) (hb : DS X Z b ψ) : DE X Z (.Subscript a b pos) (opV oIx φ ψ) := de_ix ix_seq (by rw [← o.K]; exact ov_ix) ha hb hs
theorem hs_set {i : Nat} (o : OkH X Z) (hi : X.N[i]? = some x) (hx : Loc X.env.scope x) (h : DE X Z a φ) (hs : swapsWith a (some (.Name x p2)) pos.line X.env = pure false) (hf : X.fn x = true ∨ X.env.scope.names.lookup x = some .local) :
    DSt X Z (.Assign [.Name x p2] a pos) (setS i φ) := by
  obtain ⟨t, p, rd⟩ := h
  refine ⟨_, ps_set o.nd hi hx p hs hf, fun G0 H0 σ H G env st E er en po => rd σ H G env st _ er (SPost.post er en po fun d st1 v G1 H1 _ _ er1 en1 rv po1 => ?_)⟩
  exact po1 _ G1 H1 (er1.set_val rv) en1
end
/-! ### the def that tells a caught error -/
section
variable {P : Program} {w : World} {K : PySem.W.Frag} {mg : Str → Option Value} {base : Heap} {qual : Str} {params : Arguments} {body : List Stmt} {scope : Scope} {f : Addr} {fd : FuncData}
/-- ref: what it tells, of a class and its fields -/
structure RefC (P : Program) (w : World) (K : PySem.W.Frag) (mg : Str → Option Value) (base : Heap) (k : Nat) (f : Addr) (Y : Lay) (ref : Nat → List D → Option D) : Prop where
  xa : Y.xa = none
  pln : ∀ c fs d, plnL fs = true → ref c fs = some d → plnD d = true
  ex : ∃ fd x, PySem.W.keepIn K (.ref f) = true ∧ Binds K fd [x] [] ∧ ∀ (A : Around) (outer : List Env) (s : Shared) (H G : Hp) (args : Args) (Q : VK) (p : Addr × Obj) (c : Nat) (dx : Option Addr) (ρ : Addr) (st fs : List D) (vs : List V) (d : D), L2H.RoomH k A → A.guards = some [] → L2H.PinOk outer H s p → Zc (.ref (Y.C c)) dx p.2 → (∃ vs, p.2.data = .fields vs) →
    Env0 P w K mg base A outer s H → BindsTo s fd args [(x, .ref p.1)] → XdR G dx (Y.fl c) vs → vs.length = (Y.fl c).length → RpL { Y with ρ := ρ } G fs vs → Le G H → RowR { Y with ρ := ρ } G st H → ref c fs = some d → CPost { Y with ρ := ρ } G H (.ok d st) Q (fun _ _ _ => False) →
    codeAny (model P w) A (.call (.ref f) args) (CR C8.CX0 outer P w H s Q C8.E0) s
theorem RefC.mono {j k : Nat} {Y : Lay} {ref : Nat → List D → Option D} (R : RefC P w K mg base j f Y ref) (h : j ≤ k) : RefC P w K mg base k f Y ref := by
  obtain ⟨fd, x, a, b, F⟩ := R.ex
  exact ⟨R.xa, R.pln, fd, x, a, b, fun A outer s H G args Q p c dx ρ st fs vs d hr => F A outer s H G args Q p c dx ρ st fs vs d (hr.mono h)⟩
abbrev zOfX (Y : Lay) (ρ xa : Addr) (dx : Option Addr) (c : Nat) (H : Hp) : Ct := { Y := { Y with ρ := ρ, xa := some (xa, dx, c) }, W := fun _ _ _ _ => False, fc := 0, Nw := fun a => H a = none }
theorem refc_of {Y : Lay} {ref : Nat → List D → Option D} {x : Str} {kws : List (Str × V)} {N : List Str} {k : Nat} {φ : DEnv → List D → SR} (hK : Y.K = K) (hx : Y.xa = none) (hp : ∀ c fs d, plnL fs = true → ref c fs = some d → plnD d = true) (F : FunD K x qual params body scope [] kws f fd) {x1 : Str} (S : FnScope N [x1] scope) (hb : Binds K fd [x1] [])
    (hφ : ∀ c fs d st, ref c fs = some d → ∃ env, φ (Sl.val (.exn c fs) :: List.replicate (N.length - 1) Sl.un) st = .rt d env st)
    (h : ∀ (ρ : Addr) (dx : Option Addr) (c : Nat) (cdv : Value) (A : Around) (outer : List Env) (s : Shared) (H : Hp) (p : Addr × Obj), OkH (L2H.cxH C8.CX0 P w K mg base N qual scope f cdv A outer s H C8.E0 p) (zOfX Y ρ p.1 dx c H) → DSs (L2H.cxH C8.CX0 P w K mg base N qual scope f cdv A outer s H C8.E0 p) (zOfX Y ρ p.1 dx c H) body φ) :
    RefC P w K mg base (k + 1) f Y ref := by
  obtain ⟨oc, od, dV, kV, doc, pm, an, cdv, ct, osl, rfl, lk, hcd, _, _⟩ := F.ex
  refine ⟨hx, hp, _, x1, F.kp, hb, fun A outer s H G args Q p c dx ρ st fs vs d hr hgd hpin hz hf e0 hbind hdx hvl rfs fz row hd po => ?_⟩
  have KX : K.In s.heap := e0.mod.kin.keeps fun b o e => (e0.bs b o e).1
  have lim : s.heap.NoLimit := e0.mod.nolimit.keeps fun b o e => (e0.bs b o e).1
  have hkind : ∀ y ∈ [x1].zip [Value.ref p.1], scope.names.lookup y.1 = some .local ∨ (scope.names.lookup y.1 = some .cell ∧ ((cellsFrom (s.heap.objs.size + 1) scope.names []).lookup y.1).isSome = true) := fun ⟨n, v⟩ hy => by
    rcases S.par n (List.of_mem_zip hy).1 with q | q
    · exact .inl q
    · exact .inr ⟨q, PySem.W.cellsFrom_some _ _ _ (.inl q)⟩
  refine codeAny_call_function hr.depth (KX _ _ lk) rfl S.co S.gen rfl (PySem.W.codeRec_of KX hcd) (hbind _ _ _ _ ?_)
  refine wpAny_newFunctionEnv_cells S.kind hkind fun env he s1 x => ?_
  subst he
  refine ⟨lim.keeps x.toInCall.keep, codeAny_func ?_⟩
  have hr2 := hr.deeper (envOfC qual scope s.heap.objs.size f cdv)
  have ok : OkH (L2H.cxH C8.CX0 P w K mg base N qual scope f cdv A outer s H C8.E0 p) (zOfX Y ρ p.1 dx c H) := ⟨hK, by have := hr2.un; show (A.deeper _).units + 200 < _; omega, by show (A.deeper _).guards = some []; simpa [Around.deeper] using hgd, S.nd, p, dx, c, rfl, List.mem_singleton.mpr rfl, hz, hf⟩
  obtain ⟨t, ht, rd⟩ := h ρ dx c cdv A outer s H p ok
  obtain ⟨pfs, rfs2⟩ := rpl_toX (z := some (p.1, dx, c)) (Y := { Y with ρ := ρ }) hx rfs
  obtain ⟨pst, row2⟩ := row_toX (z := some (p.1, dx, c)) (Y := { Y with ρ := ρ }) hx row
  obtain ⟨env1, hr1⟩ := hφ c fs d st hd
  have hN : 1 ≤ N.length := by
    have := congrArg List.length S.pre
    rw [List.length_take] at this
    simp at this
    omega
  have rx : Rp { Y with ρ := ρ, xa := some (p.1, dx, c) } G (.exn c fs) (.ref p.1) := by
    rw [Rp]
    exact ⟨p.1, dx, vs, rfl, rfl, hdx, hvl, rfs2⟩
  have er := start_er (Y := { Y with ρ := ρ, xa := some (p.1, dx, c) }) (fc := 0) (Nw := fun a => H a = none) (N := N) (ds := [.exn c fs]) (vs := [.ref p.1]) (n := 1) fz row2 (RpL.cons rx RpL.nil) rfl hN
  have I : Inv (L2H.cxH C8.CX0 P w K mg base N qual scope f cdv A outer s H C8.E0 p) [] (L2.start N [.ref p.1]) H s1 := L2H.inv_startH (us := [.ref p.1]) S hpin e0 rfl (.cons rfl .nil) x
  have hq : t { nx := fun _ H' => Q .non H', rt := Q } (L2.start N [.ref p.1]) H := by
    refine rd G H _ H G _ st _ er En.start ?_
    show SPost (zOfX Y ρ p.1 dx c H) G H (φ (Sl.val (.exn c fs) :: List.replicate (N.length - 1) Sl.un) st) { nx := fun _ H' => Q .non H', rt := Q }
    rw [hr1]
    intro v σ1 G1 H1 er1 en1 rv
    refine po v G1 H1 (en1.out er1.fz) (row_unX pst er1.row) (rp_unX (hp c fs d pfs hd) rv)
  refine wpAny_mono (ht.run [] s1 (L2.start N [.ref p.1]) H _ I hq) (fun fl s' hs => ?_) fun e s' hs => hs
  have fin : ∀ {σ' : L2.St} {H' : Hp} {v : V} {u : Value}, Inv (L2H.cxH C8.CX0 P w K mg base N qual scope f cdv A outer s H C8.E0 p) [] σ' H' s' → L2.RelV v u → Q v H' → CE outer P w H s Q u s' :=
    fun {σ' H' v u} J rv q => ⟨v, H', J.os, J.bare, J.base, J.hok, rv, q⟩
  cases fl with
  | ret u =>
    obtain ⟨v, σ', H', J, rv, q⟩ := hs
    exact fin J rv q
  | next =>
    obtain ⟨σ', H', J, q⟩ := hs
    exact fin (v := V.non) (u := Value.none) J rfl q
  | brk =>
    obtain ⟨_, _, _, q⟩ := hs
    exact False.elim q
  | cont =>
    obtain ⟨_, _, _, q⟩ := hs
    exact False.elim q
end
end DL

set_option Elab.async false
set_option linter.all false
set_option maxRecDepth 100000
/-! told(lambda: ..): a lambda made, handed to a def that calls it under try. -/
namespace DL
open PySem PySem.Spec PyProof.Rows L2 LamX

/-- the lambda's names: captured ones, globals, and such of its own as the def lacks -/
structure LamS2 (N : List Str) (sc scope : Scope) : Prop where
  kind : scope.kind = .function
  co : scope.isCoroutine = false
  gen : scope.isGenerator = false
  nocell : ∀ y ∈ scope.names, y.2 ≠ .cell
  own : ∀ y ∈ scope.names, y.2 = .local → y.1 ∉ N
  free : ∀ y ∈ scope.names, y.2 = .free → sc.names.lookup y.1 = some .cell ∨ sc.names.lookup y.1 = some .free
def lamS2B (N : List Str) (sc scope : Scope) : Bool :=
  decide (scope.kind = .function) && !scope.isCoroutine && !scope.isGenerator && scope.names.all fun y => !decide (y.2 = .cell) && (!decide (y.2 = .local) || !N.contains y.1) && (!decide (y.2 = .free) || decide (sc.names.lookup y.1 = some .cell) || decide (sc.names.lookup y.1 = some .free))
theorem lamS2_by {N : List Str} {sc scope : Scope} (h : lamS2B N sc scope = true) : LamS2 N sc scope := by
  unfold lamS2B at h
  simp only [Bool.and_eq_true, Bool.or_eq_true, Bool.not_eq_true', decide_eq_true_eq, decide_eq_false_iff_not, List.all_eq_true] at h
  obtain ⟨⟨⟨h1, h2⟩, h3⟩, h4⟩ := h
  refine ⟨h1, h2, h3, fun y hy => (h4 y hy).1.1, fun y hy e => ?_, fun y hy e => ?_⟩
  · rcases (h4 y hy).1.2 with z | z
    · exact absurd e z
    · simpa using z
  · rcases (h4 y hy).2 with (z | z) | z
    · exact absurd e z
    · exact .inl z
    · exact .inr z
theorem LamS2.has {X : Cx} {N : List Str} {scope : Scope} (L : LamS2 N X.env.scope scope) (ok : X.Ok) : ∀ y ∈ scope.names, y.2 = .free → ∃ c, X.env.cells.lookup y.1 = some c := fun y hy e => by
  rcases L.free y hy e with k | k
  · exact ok.has _ (.inl k)
  · exact ok.has _ (.inr k)
/-- its parameters: none, or one with a constant default -/
inductive LamP (scope : Scope) : Arguments → Prop where
  | none {params : Arguments} (hd : params.defaults = []) (hk : params.kw_defaults = []) (hb : ∀ (q : Str) (body : FuncBody) (cl : List (Str × Addr)) (doc pm cv ctv : Value), bindArgs (PySem.W.kdv_fn "<lambda>" q params body scope cl .none doc pm cv ctv) ⟨[], []⟩ = pure []) : LamP scope params
  | one {params : Arguments} {i : Int} {j : Nat} {p : Pos} {a : Str} (hd : params.defaults = [.Constant (.int i) j p]) (hk : params.kw_defaults = []) (hl : scope.names.lookup a = some .local)
      (hb : ∀ (q : Str) (body : FuncBody) (cl : List (Str × Addr)) (T : Addr) (doc pm cv ctv v : Value), ∃ k, bindArgs (PySem.W.kdv_fn "<lambda>" q params body scope cl (.ref T) doc pm cv ctv) ⟨[], []⟩ = seqItems? (.ref T) >>= k ∧ k (some #[v]) = pure [(a, v)]) : LamP scope params
/-- the lambda as it stands -/
structure LamAt (X : Cx) (H : Hp) (s : Shared) (f c' : Addr) (scope : Scope) (body : Expr) (fd : FuncData) (binds : List (Str × Value)) : Prop where
  get : s.heap.get? f = some { cls := .type "function", data := .func fd }
  free : H f = none
  nofr : f ∉ frs X.stack
  fsc : fd.scope = scope
  clo : fd.closure = cloFrom X.env.cells scope.names []
  fbd : fd.body = .expr body
  code : fd.code = .ref c'
  qual : fd.qualname = X.env.qual ++ "<lambda>"
  glob : fd.globals = mainGlobals
  blt : fd.builtins = builtinsNs
  loc : ∀ y ∈ binds, scope.names.lookup y.1 = some .local
  bind : ∀ s2 : Shared, (∀ b o, s.heap.get? b = some o → H b = none → b ∉ frs X.stack → s2.heap.get? b = some o) → BindsTo s2 fd ⟨[], []⟩ binds
  codeO : H c' = some (CodeO c' (X.env.qual ++ "<lambda>"))
section
variable {X : Cx} {pins : List (Addr × Obj)} {σ : L2.St} {H : Hp} {s : Shared}
/-- makeTail for a lambda: its code object is new, or found in the table -/
theorem lam_tail {T : List (Addr × Str)} {c P : Addr} {dV : Value} {params : Arguments} {body : Expr} {scope : Scope} {pos : Pos} {n : Nat} {E : Value → Shared → Prop} {Q : Value → Shared → Prop} (I : Inv X pins σ H s) (TB : TabB X.base X.mg c P) (hcode : X.env.code = .ref c)
    (hm : (P, X.env.qual ++ "<lambda>") ∈ T) (hu : ∀ p ∈ T, p.1 = P → p.2 = X.env.qual ++ "<lambda>") (hT : Tabs T H) (hfree : ∀ y ∈ scope.names, y.2 = .free → ∃ c, X.env.cells.lookup y.1 = some c)
    (h : ∀ (f c' : Addr) (doc pm ctv : Value) (H1 : Hp) (s' : Shared), Inv X pins σ H1 s' → (∀ b o, H b = some o → b ≠ P → H1 b = some o) → Tabs T H1 → (∀ b o, s.heap.get? b = some o → b ≠ P → s'.heap.get? b = some o) → (∀ b, b ≠ P → s.heap.get? b ≠ none → H b = none → H1 b = none) →
      s'.heap.get? f = some (PySem.W.kdv_obj "<lambda>" (X.env.qual ++ "<lambda>") params (.expr body) scope (cloFrom X.env.cells scope.names []) dV doc pm c' ctv) → H1 f = none → f ∉ frs X.stack → H1 c' = some (CodeO c' (X.env.qual ++ "<lambda>")) → Q (.ref f) s') :
    wpAny (model X.prog X.w) X.A (makeTail "<lambda>" (X.env.qual ++ "<lambda>") params (.expr body) scope X.env dV .none none pos n) Q E s := by
  obtain ⟨ps, hP, ht, ha⟩ := hT _ hm
  have bP : s.heap.BuiltinsAt X.mg P := TB.bm.keeps I.bk
  have hP' : s.heap.get? P = some { cls := .none, data := .fields ps } := I.hok P _ hP
  have nofr : ∀ f, s.heap.objs.size ≤ f → f ∉ frs X.stack := fun f hf z => by
    rcases List.mem_cons.mp (I.stkSub _ z) with e | e
    · have h1 := I.lt
      rw [← e] at h1
      exact Nat.lt_irrefl _ (Nat.lt_of_lt_of_le h1 hf)
    · exact I.nofs hf e
  cases hc : codeAmong pos ps.toList with
  | none =>
    refine PySem.W.kdv_makeTail (mg := X.mg) (c := c) (P := P) (ps := ps) (closure_ok hfree) I.ok.glob (I.mod.glob.keeps I.bk) hcode (TB.code.keeps I.bk) hP' ht hc TB.gP bP fun c' ctv doc h' tk hx hge hlt hrec htb => ?_
    obtain ⟨c2, oc, vs, t, e2, hoc, hd, hv⟩ := hrec
    cases e2
    have hsz : s.heap.objs.size ≤ h'.objs.size := Nat.le_trans hge (Nat.le_of_lt hlt)
    have nC : H c' = none := I.hok.fresh hge
    have I1 := inv_table (t' := tk) (more := #[rawInt pos.line, rawInt pos.col, .ref c']) (h' := h'.push (PySem.W.kdv_obj "<lambda>" (X.env.qual ++ "<lambda>") params (.expr body) scope (cloFrom X.env.cells scope.names []) dV doc ((X.mg "__name__").getD .none) c' ctv)) I hP
      (fun b o hb e => Heap.get?_push_of_some _ (hx b o hb e)) (Heap.get?_push_of_some _ htb) hge ⟨oc, vs, t, Heap.get?_push_of_some _ hoc, hd, hv⟩
    have hE : ∀ b o, H b = some o → b ≠ P → (upd (upd H P (.tbl (ps ++ #[rawInt pos.line, rawInt pos.col, .ref c']))) c' (CodeO c' (X.env.qual ++ "<lambda>"))) b = some o := fun b o e n => by
      rw [upd_ne (ne_of_none e nC), upd_ne n]
      exact e
    have notP : ∀ {c0 : Addr}, H c0 = some (CodeO c0 (X.env.qual ++ "<lambda>")) → c0 ≠ P := fun {c0} e z => by
      rw [z, hP] at e
      exact codeO_ne ps (Option.some.inj e).symm
    have eL : (ps ++ #[rawInt pos.line, rawInt pos.col, .ref c']).toList = ps.toList ++ [rawInt pos.line, rawInt pos.col, .ref c'] := by simp
    refine h h'.objs.size c' doc ((X.mg "__name__").getD .none) ctv _ _ I1 hE (fun p hp => ?_) (fun b o e n => Heap.get?_push_of_some _ (hx b o n e)) (fun b n e1 e2 => ?_) (Heap.get?_push_size _ rfl) ?_ (nofr _ hsz) upd_same
    · by_cases hb : p.1 = P
      · rw [hu p hp hb, hb]
        refine ⟨_, by rw [upd_ne (ne_of_none hP nC), upd_same], by rw [eL]; exact PySem.TriplesOk_snoc _ _ _ _ ht, fun p' cv hcv => ?_⟩
        rw [eL] at hcv
        rcases among_app _ ht hcv with z | z
        · obtain ⟨c0, e1, e2⟩ := ha p' cv z
          exact ⟨c0, e1, hE _ _ e2 (notP e2)⟩
        · exact ⟨c', z, upd_same⟩
      · obtain ⟨ps', a1, a2, a3⟩ := hT p hp
        refine ⟨ps', by rw [upd_ne (ne_of_none a1 nC), upd_ne hb]; exact a1, a2, fun p' cv hcv => ?_⟩
        obtain ⟨c0, e1, e2⟩ := a3 p' cv hcv
        refine ⟨c0, e1, hE _ _ e2 fun z => ?_⟩
        rw [z, hP] at e2
        exact codeO_ne ps (Option.some.inj e2).symm
    · have nc : b ≠ c' := fun z => by
        rw [z] at e1
        exact e1 (by
          cases q : s.heap.get? c' with
          | none => rfl
          | some o => exact absurd (Nat.lt_of_lt_of_le (Heap.lt_size q) hge) (Nat.lt_irrefl _))
      rw [upd_ne nc, upd_ne n]
      exact e2
    · have n1 : h'.objs.size ≠ c' := Nat.ne_of_gt hlt
      have n2 : h'.objs.size ≠ P := Nat.ne_of_gt (Nat.lt_of_lt_of_le (Heap.lt_size hP') hsz)
      rw [upd_ne n1, upd_ne n2]
      exact I.hok.fresh hsz
  | some cv =>
    obtain ⟨c', e, hco⟩ := ha pos cv hc
    subst e
    refine PySem.W.kdv_makeTailHit (mg := X.mg) (c := c) (P := P) (ps := ps) (closure_ok hfree) I.ok.glob (I.mod.glob.keeps I.bk) hcode (TB.code.keeps I.bk) hP' ht hc bP fun ctv doc h' tk hx hsz => ?_
    have I1 : Inv X pins σ H { s with heap := h'.push (PySem.W.kdv_obj "<lambda>" (X.env.qual ++ "<lambda>") params (.expr body) scope (cloFrom X.env.cells scope.names []) dV doc ((X.mg "__name__").getD .none) c' ctv), toks := tk } := I.kept fun b o e => Heap.get?_push_of_some _ (hx b o e)
    exact h h'.objs.size c' doc ((X.mg "__name__").getD .none) ctv H _ I1 (fun _ _ e _ => e) hT (fun b o e _ => Heap.get?_push_of_some _ (hx b o e)) (fun _ _ _ e => e) (Heap.get?_push_size _ rfl) (I.hok.fresh hsz) (nofr _ hsz) hco
theorem lam_make3 {T : List (Addr × Str)} {c P : Addr} {params : Arguments} {body : Expr} {scope : Scope} {pos : Pos} {Q : Value → Shared → Prop} (I : Inv X pins σ H s) (TB : TabB X.base X.mg c P) (hcode : X.env.code = .ref c)
    (hm : (P, X.env.qual ++ "<lambda>") ∈ T) (hu : ∀ p ∈ T, p.1 = P → p.2 = X.env.qual ++ "<lambda>") (hT : Tabs T H) (LP : LamP scope params) (hfree : ∀ y ∈ scope.names, y.2 = .free → ∃ c, X.env.cells.lookup y.1 = some c)
    (h : ∀ (f c' : Addr) (fd : FuncData) (binds : List (Str × Value)) (H1 : Hp) (s' : Shared), Inv X pins σ H1 s' → (∀ b o, H b = some o → b ≠ P → H1 b = some o) → Tabs T H1 → LamAt X H1 s' f c' scope body fd binds → Q (.ref f) s') :
    wpAny (model X.prog X.w) X.A (eval (.Lambda params body scope pos) X.env) Q X.xe s := by
  cases LP with
  | none hd hk hb =>
    rw [arm_eval_Lambda, defaultsOf_eq, hd, hk]
    refine wpAny_bind (wpAny_pure (wpAny_bind (wpAny_holding (wpAny_pure ?_))))
    rw [makeFunction_eq]
    simp only [List.zip_nil_right, List.filterMap_nil, List.isEmpty_nil, if_true, pure_bind]
    refine lam_tail I TB hcode hm hu hT hfree fun f c' doc pm ctv H1 s' I1 hE T1 _ _ hf hfn hfr hco => ?_
    refine h f c' _ [] H1 s' I1 hE T1 ⟨hf, hfn, hfr, rfl, rfl, rfl, rfl, rfl, rfl, rfl, fun y hy => absurd hy (by simp), fun s2 _ => BindsTo.of_eq (hb _ _ _ _ _ _ _), hco⟩
  | @one i j p a hd hk hl hb =>
    rw [arm_eval_Lambda, defaultsOf_eq, hd, hk]
    refine wpAny_bind (PySem.W.kdv_all1 ?_)
    refine wpAny_mono ((pe_int (X := X) (i := i) (j := j) (pos := p)).run pins s σ H (fun v H1 => v = .int i ∧ H1 = H) I ⟨rfl, rfl⟩) (fun u s1 ⟨v, H1, I1, r1, ev, eH⟩ => ?_) (fun _ _ z => ?_)
    · subst ev eH
      refine PySem.W.kdv_all0 (wpAny_bind (wpAny_holding (wpAny_pure ?_)))
      rw [makeFunction_eq]
      simp only [List.zip_nil_right, List.filterMap_nil, List.isEmpty_nil, List.isEmpty_cons, if_true, pure_bind, Bool.false_eq_true, if_false]
      refine wpAny_bind (wpAny_newTextTuple ?_)
      have I2 : Inv X pins σ H1 { s1 with heap := s1.heap.push (PySem.W.kdv_tup [u]) } := I1.kept (t' := s1.toks) fun b o e => Heap.get?_push_of_some _ e
      refine lam_tail I2 TB hcode hm hu hT hfree fun f c' doc pm ctv H2 s' I3 hE T1 kp kn hf hfn hfr hco => ?_
      have get0 : (s1.heap.push (PySem.W.kdv_tup [u])).get? s1.heap.objs.size = some (PySem.W.kdv_tup [u]) := Heap.get?_push_size _ rfl
      have nP : s1.heap.objs.size ≠ P := fun z => by
        obtain ⟨ps, hP, _⟩ := hT _ hm
        have := I1.hok.fresh (Nat.le_refl s1.heap.objs.size)
        rw [z, hP] at this; cases this
      have nfr : s1.heap.objs.size ∉ frs X.stack := fun z => by
        rcases List.mem_cons.mp (I1.stkSub _ z) with e | e
        · have h1 := I1.lt
          rw [← e] at h1
          exact Nat.lt_irrefl _ h1
        · exact I1.nofs (Nat.le_refl _) e
      refine h f c' _ [(a, u)] H2 s' I3 hE T1 ⟨hf, hfn, hfr, rfl, rfl, rfl, rfl, rfl, rfl, rfl, fun y hy => ?_, fun s2 k2 => ?_, hco⟩
      · rw [List.mem_singleton.mp hy]; exact hl
      · obtain ⟨k, e1, e2⟩ := hb (X.env.qual ++ "<lambda>") (.expr body) (cloFrom X.env.cells scope.names []) s1.heap.objs.size doc pm (.ref c') ctv u
        exact BindsTo.of_defaults (T := s1.heap.objs.size) rfl (k2 _ _ (kp _ _ get0 nP) (kn _ nP (by rw [get0]; simp) (I1.hok.fresh (Nat.le_refl _))) nfr) rfl e1 e2
    · exact z
/-- the lambda's frame is entered -/
theorem lam_start3 {HZ : Hp} {s1 : Shared} {A : Around} {outer : List Env} {E : XK} {scope : Scope} {f c' : Addr} {h₁ : Heap} {tk : Nat} {m : Str → Option Value} (I : Inv X pins σ H s) (L : LamS2 X.N X.env.scope scope) (e0 : Env0 X.prog X.w X.K X.mg X.base A outer s1 HZ) (hd : A.handled = none)
    (un : Un (frs X.stack) [] H HZ s.heap s1.heap) (hns : h₁.Ns s1.heap.objs.size m) (kp : ∀ b o, s1.heap.get? b = some o → h₁.get? b = some o) :
    Inv (lamCx X A outer s1 HZ E scope f c') [] σ HZ { s1 with heap := h₁, toks := tk } := by
  have hfree := L.has I.ok
  have cm : ∀ {y c}, (cloFrom X.env.cells scope.names []).lookup y = some c → X.env.cells.lookup y = some c := fun {y c} e => by
    rcases cloFrom_mem (PySem.mem_of_lookup e) with hm | ⟨h1, h2⟩
    · cases hm
    · obtain ⟨c1, hc⟩ := hfree _ h1 rfl
      have hc : X.env.cells.lookup y = some c1 := hc
      have e2 : c = c1 := by
        rw [h2, hc] <;> rfl
      rw [e2]
      exact hc
  have look : ∀ {y}, scope.names.lookup y = some .free → ∃ c, (cloFrom X.env.cells scope.names []).lookup y = some c := fun {y} hl => by
    have hy : (y, NameKind.free) ∈ scope.names := PySem.mem_of_lookup hl
    exact mem_lookup (cloFrom_has (cells := X.env.cells) (acc := []) hy)
  have cellK : ∀ {c : Addr} {v : Option Value}, H c = none → s.heap.IsCell c v → h₁.IsCell c v := fun {c v} n ⟨o, ho, hd⟩ => by
    obtain ⟨sl, q⟩ := un.any ho n (by simp)
    exact ⟨_, kp _ _ q, hd⟩
  have noA : ∀ b : Addr, b ∉ (lamCx X A outer s1 HZ E scope f c').ex := fun b z => absurd (show b ∈ ([] : List Addr) from z) (by simp)
  refine ⟨⟨e0.mod, L.kind, rfl, rfl, Nat.le_refl _, fun y z c e1 e2 => I.ok.inj y z c (cm e1) (cm e2), fun y hy => ?_, fun y c z _ => ?_, fun _ => hd, Around.frames_deeper e0.frames, .inr ⟨rfl, rfl⟩, fun b z => absurd z (noA b), e0.bs, e0.bsz, fun b _ _ => noA b,
      fun b z => absurd z (noA b), e0.funs, e0.frf⟩,
    rfl, e0.bare, Un.kept kp, ⟨_, hns, fun i y v e1 e2 e3 => ?_⟩, fun y c e => ?_, e0.hok.fresh (Nat.le_refl _), fun y c e => ?_, fun q hq => absurd (show q ∈ ([] : List (Addr × Obj)) ++ [] from hq) (by simp), e0.hok.kept kp, I.len⟩
  · have hy : scope.names.lookup y = some .cell ∨ scope.names.lookup y = some .free := hy
    rcases hy with hy | hy
    · exact absurd rfl (L.nocell _ (PySem.mem_of_lookup hy))
    · exact look hy
  · have z : false = true := z
    cases z
  · have e3 : Vis scope y := e3
    rcases e3 with k | k | k
    · exact absurd (List.mem_of_getElem? (show X.N[i]? = some y from e1)) (L.own _ (PySem.mem_of_lookup k) rfl)
    · exact absurd rfl (L.nocell _ (PySem.mem_of_lookup k))
    · obtain ⟨m, hn, hl⟩ := I.loc
      have hvis : Vis X.env.scope y := (L.free _ (PySem.mem_of_lookup k) rfl).elim (fun k => .inr (.inl k)) (fun k => .inr (.inr k))
      obtain ⟨w', r, q⟩ := hl i y v e1 e2 hvis
      obtain ⟨c2, h2⟩ := look k
      refine ⟨w', r, .inr ⟨.inr k, c2, h2, ?_⟩⟩
      have c1 := cm h2
      rcases q with ⟨k', _⟩ | ⟨_, c3, e', z⟩
      · have k' : X.env.scope.names.lookup y = some .local := k'
        rcases L.free _ (PySem.mem_of_lookup k) rfl with k2 | k2 <;> rw [show X.env.scope.names.lookup y = _ from k2] at k' <;> cases k'
      · rw [c1] at e'
        cases e'
        exact cellK (I.freeC y _ c1) z
  · obtain ⟨w', z⟩ := I.cell y c (cm e)
    exact ⟨w', cellK (I.freeC y c (cm e)) z⟩
  · obtain ⟨v, o, ho, hd⟩ := I.cell y c (cm e)
    exact un.free c o ho (I.freeC y c (cm e)) (by simp)
/-- x(), in the def that got the lambda: Z is that def's context, entered at s -/
theorem pe_act3 {CXg : CXT} {Eg : XK} {Ng : List Str} {qg : Str} {sg : Scope} {g f c' : Addr} {cdg : Value} {body : Expr} {scope : Scope} {fd : FuncData} {binds : List (Str × Value)} {k i : Nat} {a : Str} {pn : List (Addr × Obj)} {xe : Value → Shared → Prop} {W : WX} {tb : XK → TE} {p1 p2 : Pos}
    (I : Inv X pins σ H s) (L : LamS2 X.N X.env.scope scope) (La : LamAt X H s f c' scope body fd binds)
    (tk : Takes ((cxOf CXg X.prog X.w X.K X.mg X.base Ng qg sg g cdg X.A X.stack s H Eg).tr pn xe) W) (hr : Room (k + 1) (X.A.deeper (envOfC qg sg s.heap.objs.size g cdg)))
    (hbody : ∀ (s1 : Shared) (H1 : Hp) (E : XK), Room k ((X.A.deeper (envOfC qg sg s.heap.objs.size g cdg)).deeper (lamEnv X scope s1.heap.objs.size f c')) → PE (lamCx X (X.A.deeper (envOfC qg sg s.heap.objs.size g cdg)) (envOfC qg sg s.heap.objs.size g cdg :: X.stack) s1 H1 E scope f c') body (tb E))
    (hN : Ng[i]? = some a) (hv : Vis sg a) (hd : (a == ("__debug__" : Str)) = false) (hcd : (a == ("__classdict__" : Str)) = false) :
    PE ((cxOf CXg X.prog X.w X.K X.mg X.base Ng qg sg g cdg X.A X.stack s H Eg).tr pn xe) (.Call (.Name a p1) [] [] p2)
      (fun σZ HZ Q => σZ[i]? = some (some (.ref f)) ∧ HZ c' = some (CodeO c' (X.env.qual ++ "<lambda>")) ∧ tb (WE W σZ) σ HZ Q) := by
  refine ⟨fun pinsZ sZ σZ HZ Q IZ h => ?_⟩
  obtain ⟨hs, hc, ht⟩ := h
  refine wpAny_Call_Name_kw (thn ((pe_var (pos := p1) (i := i) hN hv hd hcd).run pinsZ sZ σZ HZ (fun v H1 => v = .ref f ∧ H1 = HZ) IZ ⟨.ref f, hs, rfl, rfl⟩) fun u s1 ⟨v, H1, I1, r1, q1⟩ => ?_)
  obtain ⟨ev, eH⟩ := q1
  subst ev
  rw [eH] at I1
  obtain rfl : u = Value.ref f := r1
  have keepH : ∀ b o, s.heap.get? b = some o → H b = none → b ∉ frs X.stack → s1.heap.get? b = some o := fun b o e1 e2 e3 => I1.base.keep b o e1 e2 e3 (fun z => nomatch (show b ∈ ([] : List Addr) from z))
  have of1 := keepH _ _ La.get La.free La.nofr
  refine PySem.W.callWith_F0 ⟨_, _, _, _, of1⟩ ?_
  have un : Un (frs X.stack) [] H HZ s.heap s1.heap := I1.base
  obtain ⟨⟨oc, vs, t, hoc, hdc, hvc⟩, _, _⟩ := I1.hok c' _ hc
  have hco : fd.scope.isCoroutine = false := by rw [La.fsc]; exact L.co
  have hgen : fd.scope.isGenerator = false := by rw [La.fsc]; exact L.gen
  have rc : codeAny (model X.prog X.w) (X.A.deeper (envOfC qg sg s.heap.objs.size g cdg)) (.call (.ref f) ⟨[], []⟩) (CR (L2.CX X.prog X.w) (envOfC qg sg s.heap.objs.size g cdg :: X.stack) X.prog X.w HZ s1 Q (WE W σZ)) s1 := by
    refine PySem.W.kla_callFunE (fd := fd) hr.depth of1 rfl hco hgen La.fbd (by rw [La.code, La.qual]; exact ⟨c', oc, vs, t, rfl, hoc, hdc, hvc⟩) (La.bind s1 keepH _ _ _ _ ?_)
    rw [La.fsc, La.glob, La.clo, La.qual, La.code, La.blt]
    refine wpAny_newFunctionEnv (fun y hy => L.nocell y hy) La.loc (fun h₁ hns hsb => ⟨I1.nolimit.fresh _ hsb, ?_⟩) L.kind
    show codeAny _ _ (.expr body (lamEnv X scope s1.heap.objs.size f c')) _ _
    have kp : ∀ b o, s1.heap.get? b = some o → h₁.get? b = some o := fun b o e => hsb.extBut b o (Nat.ne_of_lt (Heap.lt_size e)) (Heap.get?_push_of_some _ e)
    have J : Inv (lamCx X (X.A.deeper (envOfC qg sg s.heap.objs.size g cdg)) (envOfC qg sg s.heap.objs.size g cdg :: X.stack) s1 HZ (WE W σZ) scope f c') [] σ HZ { s1 with heap := h₁, toks := s1.toks + binds.length } :=
      lam_start3 I L I1.env0 hr.hd un hns kp
    refine PySem.W.kla_codeExpr (wpAny_mono ((hbody s1 HZ _ (hr.deeper _)).run [] _ _ HZ Q J ht) (fun v s' hq => ?_) fun e s' hq => hq)
    obtain ⟨w', H', J', rv, q⟩ := hq
    exact ⟨w', H', J'.os, J'.bare, J'.base, J'.hok, rv, q⟩
  have hx := passAt tk σZ
  refine wpAny_call (codeAny_mono rc fun r s' hq => ?_)
  cases r with
  | error e => exact hx pinsZ HZ s1 e s' I1 hq
  | ok fl =>
    cases fl with
    | ret u => exact I1.after hq
    | next => exact False.elim hq
    | brk => exact False.elim hq
    | cont => exact False.elim hq
end
/-! ### told(lambda: ..) -/
/-- what the def told has: its body tries what it got, and hands an error of the class at CS to the def at rf -/
structure Told (K : PySem.W.Frag) (mg : Str → Option Value) (g rf CS : Addr) (tl : Str) : Prop where
  ex : ∃ (pg : Arguments) (sg : Scope) (kws : List (Str × V)) (fd : FuncData) (Ng : List Str) (a n e r : Str) (j1 kk : Nat) (p1 p2 p3 p4 p5 p6 p7 p8 p9 p10 p11 : Pos) (q1 q2 : Pos),
    FunD K "_law_told" "_law_told" pg [.Try [.Return (some (.Tuple [.Constant (.str tl) j1 p1, .Call (.Name a q1) [] [] q2] kk p2)) p3] [.ExceptHandler (some (.Name e p4)) (some n) [.Return (some (.Call (.Name r p5) [.Name n p6] [] p7)) p8] p9] [] [] p10] sg [] kws g fd ∧
    FnScope Ng [a] sg ∧ Binds K fd [a] [] ∧ Ng[0]? = some a ∧ Ng[1]? = some n ∧ Vis sg a ∧ sg.names.lookup n = some .local ∧ sg.names.lookup e = some .globalImplicit ∧ sg.names.lookup r = some .globalImplicit ∧ mg e = some (.ref CS) ∧ mg r = some (.ref rf) ∧
    (a == ("__debug__" : Str)) = false ∧ (a == ("__classdict__" : Str)) = false ∧ (n == ("__debug__" : Str)) = false ∧ (n == ("__classdict__" : Str)) = false ∧ (e == ("__debug__" : Str)) = false ∧ (r == ("__debug__" : Str)) = false
def toldE (tl : List Nat) (ref : Nat → List D → Option D) (φ : DEnv → List D → Res D) (env : DEnv) (st : List D) : Res D := match φ env st with
  | .ok d st1 => .ok (.tup [.str tl, d]) st1
  | .exc c fs st1 => ofO (ref c fs) st1
  | .bad => .bad
/-- an expression's reading, of its own -/
def tDE (Z : Ct) (φ : DEnv → List D → Res D) : TE := fun σ H Q => ∃ G env st, ER Z.Y Z.fc Z.Nw G env st σ H ∧ Post (rV Z.Y) Z G σ H (φ env st) Q
theorem DE.pe {X : Cx} {Z : Ct} {a : Expr} {φ : DEnv → List D → Res D} (h : DE X Z a φ) : PE X a (tDE Z φ) := by
  obtain ⟨t, p, rd⟩ := h
  exact ⟨fun pins s σ H Q I ⟨G, env, st, er, po⟩ => p.run pins s σ H Q I (rd σ H G env st Q er po)⟩
/-- the context of the lambda's body -/
abbrev zLam (Z : Ct) (E : XK) : Ct := { Y := Z.Y, W := fun cls d _ H => E cls d H, fc := Z.fc, Nw := Z.Nw }
section
variable {X : Cx} {Z : Ct} {k : Nat}
theorem okc_lam {A : Around} {outer : List Env} {s : Shared} {H : Hp} {E : XK} {scope : Scope} {f c' : Addr} (o : Okc X Z k) {j : Nat} (hr : Room j (A.deeper (lamEnv X scope s.heap.objs.size f c'))) (hG : A.guards = some []) : Okc (lamCx X A outer s H E scope f c') (zLam Z E) j where
  K := o.K
  tk := takes_of (E := E) rfl rfl rfl rfl
  room := hr
  calm := rfl
  nd := o.nd
  gd := by show (A.deeper _).guards = some []; simpa [Around.deeper] using hG
/-- ref(e) in the except suite of told -/
theorem pe_ref {Xt : Cx} {a : Addr} {oe : Obj} {pn : List (Addr × Obj)} {n r : Str} {i k : Nat} {rf : Addr} {Y : Lay} {ref : Nat → List D → Option D} {cls : Value} {d : Option Addr} {p5 p6 p7 : Pos} (R : RefC Xt.prog Xt.w Xt.K Xt.mg Xt.base k rf Y ref) (hr : Room k Xt.A) (hgd : Xt.A.guards = some []) (hz : Zc cls d oe) (hf : ∃ vs, oe.data = .fields vs)
    (hg : Gl Xt r) (hm : Xt.mg r = some (.ref rf)) (hdr : (r == ("__debug__" : Str)) = false) (hi : Xt.N[i]? = some n) (hv : Vis Xt.env.scope n) (hdn : (n == ("__debug__" : Str)) = false) (hcn : (n == ("__classdict__" : Str)) = false) :
    PE (Xt.suite a ((a, oe) :: pn)) (.Call (.Name r p5) [.Name n p6] [] p7) (fun σ H Q => σ[i]? = some (some (.ref a)) ∧ ∃ (c : Nat) (ρ : Addr) (G : Hp) (st fs : List D) (vs : List V) (u : D), cls = .ref (Y.C c) ∧ XdR G d (Y.fl c) vs ∧ vs.length = (Y.fl c).length ∧ RpL { Y with ρ := ρ } G fs vs ∧ Le G H ∧
      RowR { Y with ρ := ρ } G st H ∧ ref c fs = some u ∧ CPost { Y with ρ := ρ } G H (.ok u st) Q (fun _ _ _ => False)) := by
  obtain ⟨fd, x, hk, hb, F⟩ := R.ex
  refine ⟨fun pins s σ H Q I h => ?_⟩
  obtain ⟨hs, c, ρ, G, st, fs, vs, u, ec, h1, h2, h3, h4, h5, h6, h7⟩ := h
  subst ec
  refine wpAny_Call_Name_kw (ld_glob (X := Xt.suite a ((a, oe) :: pn)) I hg hm ?_ hdr)
  refine PySem.W.callWith_K (h₀ := Xt.base) I.ok.mod.kin hk (thn ((pa_cons (pe_var (X := Xt.suite a ((a, oe) :: pn)) (i := i) hi hv hdn hcn) pa_nil rfl).run p7 pins s σ H (fun ws H1 => ws = [V.ref a] ∧ H1 = H) I ⟨.ref a, hs, rfl, rfl⟩) fun us s1 ⟨ws, H1, I1, r1, ew, eH⟩ => ⟨I1.kIn, ?_⟩) rfl rfl
  subst ew eH
  obtain ⟨w, rfl, rw1⟩ := vals1 r1
  obtain rfl : w = Value.ref a := rw1
  have b := hb s1 [.ref a] I1.kIn rfl
  rw [List.append_nil] at b
  have P1 := I1.pin (a, oe) (List.mem_append_left _ List.mem_cons_self)
  have hpin : L2H.PinOk Xt.stack H1 s1 (a, oe) := ⟨P1.1, P1.2.1, fun hm => (List.mem_cons.mp (I1.stkSub a hm)).elim P1.2.2.1 P1.2.2.2.1, P1.2.2.2.2⟩
  have hrH : L2H.RoomH k (Xt.suite a ((a, oe) :: pn)).A := ⟨hr.dp, hr.un⟩
  refine wpAny_call (codeAny_mono (F (Xt.suite a ((a, oe) :: pn)).A Xt.stack s1 H1 G ⟨[.ref a], []⟩ Q (a, oe) c d ρ st fs vs u hrH hgd hpin hz hf I1.env0 b h1 h2 h3 h4 h5 h6 h7) fun r s' hq => ?_)
  cases r with
  | error e => exact False.elim hq
  | ok fl =>
    cases fl with
    | ret u => exact I1.after hq
    | next => exact False.elim hq
    | brk => exact False.elim hq
    | cont => exact False.elim hq
theorem de_told {φ : DEnv → List D → Res D} {ref : Nat → List D → Option D} {g rf CS c P : Addr} {tl x : Str} {j : Nat} {params : Arguments} {body : Expr} {scope : Scope} {p lpos pos : Pos} (o : Okc X Z k) (T : Told X.K X.mg g rf CS tl) (R : RefC X.prog X.w X.K X.mg X.base j rf Z.Y ref)
    (hex : ∀ c fs d, ref c fs = some d → PySem.W.exmOne X.K (.ref (Z.Y.C c)) (.ref CS) = some true) (hk : j + 2 ≤ k) (hm : X.mg x = some (.ref g)) (hg : Gl X x) (hdb : (x == ("__debug__" : Str)) = false)
    (TB : TabB X.base X.mg c P) (hcode : X.env.code = .ref c) (hmT : (P, X.env.qual ++ "<lambda>") ∈ Z.Y.tb) (hu : ∀ p ∈ Z.Y.tb, p.1 = P → p.2 = X.env.qual ++ "<lambda>") (LP : LamP scope params) (L : LamS2 X.N X.env.scope scope)
    (hbody : ∀ (A : Around) (outer : List Env) (s : Shared) (H : Hp) (E : XK) (f c' : Addr), Okc (lamCx X A outer s H E scope f c') (zLam Z E) j → DE (lamCx X A outer s H E scope f c') (zLam Z E) body φ) :
    DE X Z (.Call (.Name x p) [.Lambda params body scope lpos] [] pos) (toldE tl.cps.toList ref φ) := by
  obtain ⟨pg, sg, kws, fd, Ng, a, n, e, r, j1, kk, p1, p2, p3, p4, p5, p6, p7, p8, p9, p10, p11, q1, q2, F, Sg, hb, hN0, hN1, hva, hln, hle, hlr, hme, hmr, d1, d2, d3, d4, d5, d6⟩ := T.ex
  have o : Okc X Z (j + 2) := ⟨o.K, o.tk, o.room.mono hk, o.calm, o.nd, o.gd⟩
  refine ⟨tDE Z (toldE tl.cps.toList ref φ), ⟨fun pins s σ H Q I h => ?_⟩, fun σ H G env st Q er po => ⟨G, env, st, er, po⟩⟩
  obtain ⟨G, env, st, er, po⟩ := h
  refine wpAny_Call_Name_kw (ld_glob I hg hm ?_ hdb)
  refine PySem.W.callWith_K (h₀ := X.base) I.ok.mod.kin F.kp ?_ rfl rfl
  show wpAny _ _ (spliced ((false, eval (.Lambda params body scope lpos) X.env) :: backTo pos (starEach [] X.env))) _ _ s
  obtain ⟨rvs, w1, w2, w3, w4, w5⟩ := id er.row
  refine Calls.spliced_cons (lam_make3 I TB hcode hmT hu w4 LP (L.has I.ok) fun f c' fdl binds H1 s' I1 hE T1 La => ?_)
  have MP : Z.Y.M P := .inr ⟨_, hmT⟩
  have rP : Z.Y.ρ ≠ P := fun z => by
    obtain ⟨ps, hP, _⟩ := w4 _ hmT
    rw [z] at w1
    rw [w1] at hP
    cases hP
  have e1 : Ext Z.Y.M G H G H1 := ⟨fun _ _ h => h, fun b o h => hE b o (er.fz _ _ h) (fun z => by rw [z, w5 _ hmT] at h; cases h), fun b o h n => hE b o h (fun z => n (z ▸ MP)), fun _ _ h => .inl h⟩
  have row1 : RowR Z.Y G st H1 := ⟨rvs, hE _ _ w1 rP, w2, w3, T1, w5⟩
  have er1 := er.ext e1 row1
  have po1 := Post.ext po e1 row1.there
  obtain ⟨oc, od, dV, kV, doc, pm, an, cdv, ct, osl, rfl, lk, hcd, _, _⟩ := F.ex
  refine Calls.spliced_nil ⟨I1.kIn, ?_⟩
  have b := hb s' [.ref f] I1.kIn rfl
  rw [List.append_nil] at b
  have rc : codeAny (model X.prog X.w) X.A (.call (.ref g) ⟨[.ref f], []⟩) (CR C8.CX0 X.stack X.prog X.w H1 s' Q C8.E0) s' := by
    refine run_ofS (CX := C8.CX0) (N := Ng) (ps := [a]) (us := [.ref f]) (vs := [.ref f]) lk hcd Sg o.room I1.env0 b (.cons rfl .nil) rfl fun hr' => ?_
    have hG : (X.A.deeper (envOfC "_law_told" sg s'.heap.objs.size g cdv)).guards = some [] := by simpa [Around.deeper] using o.gd
    have hge : Gl (cxOf C8.CX0 X.prog X.w X.K X.mg X.base Ng "_law_told" sg g cdv X.A X.stack s' H1 C8.E0).nox e := hle
    have hs0 : (L2.start Ng [V.ref f])[0]? = some (some (V.ref f)) := by unfold L2.start; simp
    have hs1 : 1 < (L2.start Ng [V.ref f]).length := by
      have := (List.getElem?_eq_some_iff.mp hN1).1
      unfold L2.start
      simp
      omega
    refine ⟨_, PSs.nox (pss_one (L2H.ps_try_asH (X := (cxOf C8.CX0 X.prog X.w X.K X.mg X.base Ng "_law_told" sg g cdv X.A X.stack s' H1 C8.E0).nox) (c := .ref CS) (i := 1)
        (tb := fun W D σt Ht => σt[0]? = some (some (.ref f)) ∧ Ht c' = some (CodeO c' (X.env.qual ++ "<lambda>")) ∧ tDE (zLam Z (WE W σt)) φ σ Ht fun v H' => 2 ≤ sizeLine ∧ ∀ p, H' p = none → D.rt (.ref p) (upd H' p (.tup [.str tl, v])))
        rfl rfl Sg.nd hN1 hln ⟨hge, d5, .inl hme⟩ LamX.takes0 (fun W pn xe _ tk _ => ?_) (fun a0 oe cls d pn hz hf => pss_one (ps_ret (pe_ref (k := j) (i := 1) (Y := Z.Y) R (hr'.mono (Nat.le_succ j)) hG hz hf hlr hmr d6 hN1 (.inl hln) d3 d4))))), ?_⟩
    · refine ⟨fun pins2 s2 σt Ht D I2 h => ?_⟩
      have act := pe_act3 (CXg := C8.CX0) (Eg := C8.E0) (i := 0) (k := j) (tb := fun E => tDE (zLam Z E) φ) (p1 := q1) (p2 := q2) I1 L La tk hr' (fun s1 H2 E hr2 => (hbody _ _ s1 H2 E f c' (okc_lam o hr2 hG)).pe) hN0 hva d1 d2
      have pp := pss_one (ps_ret (pos := p3) (pe_tup (pos := p2) (x1 := kk) (pa_cons (pe_str (x := tl) (j := j1) (pos := p1)) (pa_cons act pa_nil rfl) rfl)))
      exact pp.run pins2 s2 σt Ht D I2 h
    · refine ⟨hs0, La.codeO, G, env, st, er1, ?_⟩
      unfold toldE at po1
      cases hφ : φ env st with
      | ok d st1 =>
        rw [hφ] at po1
        intro v G' H' ext row rv
        refine ⟨by decide, fun p hp => ?_⟩
        have e2 : Ext Z.Y.M G' H' (upd G' p (.tup [.str tl, v])) (upd H' p (.tup [.str tl, v])) := Ext.new ext.f hp
        refine po1 (V.ref p) _ _ (ext.trans e2 row.there) (row.monoN e2 hp) ?_
        refine rp_tup (SqT.of upd_same) (RpL.cons ?_ (RpL.cons (Rp.mono e2.g rv) RpL.nil))
        have z := rp_str (Y := Z.Y) (G := upd G' p (.tup [.str tl, v])) tl.cps.toList
        rwa [S_toList] at z
      | exc c0 fs st1 =>
        rw [hφ] at po1
        intro cls dx G' H' ext row ex
        obtain ⟨rfl, d0, vs, rfl, x1, x2, x3⟩ := ex
        cases hrf : ref c0 fs with
        | none => simp only [hrf] at po1; exact po1.elim
        | some u =>
          simp only [hrf] at po1
          refine ⟨true, hex c0 fs u hrf, fun _ a0 ha => ⟨by rw [List.getElem?_set_self hs1], c0, Z.Y.ρ, G', st1, fs, vs, u, rfl, x1, x2, x3, ext.f, row, hrf, fun v G2 H2 e2 row2 rv => po1 v G2 H2 (ext.trans e2 row.there) row2 rv⟩, fun z => nomatch z⟩
      | bad =>
        rw [hφ] at po1
        exact po1.elim
  refine wpAny_call (codeAny_mono rc fun r s2 hq => ?_)
  cases r with
  | error e => exact (show False from hq).elim
  | ok fl =>
    cases fl with
    | ret u => exact I1.after hq
    | next => exact False.elim hq
    | brk => exact False.elim hq
    | cont => exact False.elim hq
end
end DL

set_option Elab.async false
set_option linter.all false
set_option maxRecDepth 100000
set_option maxHeartbeats 2000000
/-! The head: a Hook that tells own errors' __init__s too; the end of a law whose def keeps its promise where no repr is under way. -/
namespace DL
open PySem PySem.Spec PyProof.Rows L2
/-! ### an own error's __init__ -/
abbrev IniW : Type := Option (Str × Str × Arguments × FuncBody × Scope × Addr × List Str × Addr)
def iniW (K : PySem.W.Frag) (x : Str) : IniW := match K.lookup (He.ma K (He.ga K x) "__init__") with
  | some ⟨_, _, .func fd, _⟩ => some (fd.name, fd.qualname, fd.params, fd.body, fd.scope, fd.globals, fd.closure.map (·.1), fd.builtins)
  | _ => none
structure IniD where
  cls : Str
  qual : Str
  params : Arguments
  body : List Stmt
  scope : Scope
def IniD.val (d : IniD) : IniW := some ("__init__", d.qual, d.params, .stmts d.body, d.scope, mainGlobals, ["__class__"], builtinsNs)
def oexB (K : PySem.W.Frag) (C : Addr) : Bool := (match K.lookup C with
  | some ⟨.type c, _, .cls cd, sl⟩ => (match cd.mro, sl.toList with
    | .ref C' :: bm, [_, _, _, _, some (.builtin n), _] => decide (c = "type") && (decide (C' = C) && (decide (n = "ValueError.__new__") && (!cd.hasDel && (cd.hasDict && PySem.HandSPX.refsVE bm))))
    | _, _ => false)
  | _ => false) && (He.eqO (PySem.W.findIn K (.ref C) "__setattr__") (some (some (.builtin "object.__setattr__"))) && (decide (PySem.W.subIn K (.ref C) (.type "BaseException") = some true) && (decide (PySem.W.typeIn K (.ref C) = some (.type "type")) && PySem.W.keepIn K (.ref C))))
theorem oexB_ok {K : PySem.W.Frag} {C : Addr} (h : oexB K C = true) : L2.OexC K C := by
  obtain ⟨h1, h⟩ := He.ba h
  obtain ⟨h2, h⟩ := He.ba h
  obtain ⟨h3, h⟩ := He.ba h
  obtain ⟨h4, h5⟩ := He.ba h
  refine ⟨?_, He.eqO_ok h2, of_decide_eq_true h3, of_decide_eq_true h4, h5⟩
  cases q : K.lookup C with
  | none => rw [q] at h1; cases h1
  | some o =>
    obtain ⟨oc, od, dt, sl⟩ := o
    rw [q] at h1
    cases oc with
    | type c =>
      cases dt with
      | cls cd =>
        obtain ⟨n1, n2, n3, n4, n5, n6, n7, n8, n9, n10, n11⟩ := cd
        dsimp only at h1
        split at h1
        · rename_i C' bm a0 a1 a2 a3 n a5 e2
          obtain ⟨g1, h1⟩ := He.ba h1
          obtain ⟨g2, h1⟩ := He.ba h1
          obtain ⟨g3, h1⟩ := He.ba h1
          obtain ⟨g4, h1⟩ := He.ba h1
          obtain ⟨g5, g6⟩ := He.ba h1
          have g1 := of_decide_eq_true g1
          have g2 := of_decide_eq_true g2
          have g3 := of_decide_eq_true g3
          have g4 : n11 = false := by simpa using g4
          have g5 : n6 = true := g5
          have esl : sl = #[a0, a1, a2, a3, some (.builtin n), a5] := by
            rw [← e2]
          subst g1 g2 g3 g4 g5 esl
          exact ⟨_, _, _, _, _, _, _, _, _, _, _, _, _, _, _, rfl, g6⟩
        · cases h1
      | _ => cases h1
    | _ => cases dt <;> cases h1
def errB (file : Str) (K : PySem.W.Frag) (x : Str) (fs : List Str) : Bool := oexB K (He.ga K x) && (fs.all (fun f => He.eqO (PySem.W.findIn K (.ref (He.ga K x)) f) (some none)) &&
  (He.eqO (PySem.W.findIn K (.ref (He.ga K x)) "__init__") (some (some (.ref (He.ma K (He.ga K x) "__init__")))) && (decide (PySem.W.typeIn K (.ref (He.ma K (He.ga K x) "__init__")) = some (.type "function")) && (decide (PySem.W.mroIn K (He.ga K x) (.ref (He.ga K x)) = some true) &&
  (He.eqO (PySem.W.ks_superIn K (He.ga K x) (He.ga K x) "__init__") (some (some (.builtin "ValueError.__init__"))) && (He.eqO (PySem.W.nsIn K cStatics "thirdparty.any") (some none) && (decide (PySem.W.subIn K (.ref (He.ga K x)) (.type "ValueError") = some true) &&
  (match K.lookup (He.ma K (He.ga K x) "__init__") with
    | some ⟨_, _, .func fd, _⟩ => (match fd.defaults with | .none => true | _ => false) && PySem.W.codeIn K fd.code fd.qualname && ((match fd.closure with
      | [(_, cc)] => (match K.lookup cc with
        | some ⟨_, _, .cell (some (.ref C')), _⟩ => decide (C' = He.ga K x)
        | _ => false)
      | _ => false) && (match fd.code with
      | .ref cda => (match K.lookup cda with
        | some ⟨_, _, .fields vs, _⟩ => (match (vs[2]? : Option Value) with
          | some (Value.str f _) => file == f
          | _ => false)
        | _ => false)
      | _ => false))
    | _ => false))))))))
/-- what the text says of it -/
structure IniS (prog : Program) (d : IniD) (fs : List Str) : Prop where
  body : PySem.DErr.Body fs d.body
  top : (prog.main.scope.names.lookup ("super" : Str)).isSome = false
  ar : ∃ ar : Arg, (d.params.posonlyargs ++ d.params.args).head? = some ar ∧ ar.arg = "self"
  kind : d.scope.kind = .function
  co : d.scope.isCoroutine = false
  gen : d.scope.isGenerator = false
  nc : ∀ x ∈ d.scope.names, x.2 ≠ .cell
  sup : d.scope.names.lookup ("super" : Str) = some .globalImplicit
  clf : d.scope.names.lookup ("__class__" : Str) = some .free
  loc : ∀ y ∈ ("self" : Str) :: fs, d.scope.names.lookup y = some .local
  nd : (("self" : Str) :: fs).Nodup
  db : ∀ y ∈ fs, (y == ("__debug__" : Str)) = false
  bind : ∀ (dV kV doc pm : Value) (an : Option Addr) (cda : Addr) (ct : Value) (cc : Addr) (s : Shared) (us : List Value), dV = .none → us.length = fs.length + 1 → BindsTo s (PySem.W.ksFn "__init__" d.qual d.params d.body d.scope dV kV doc pm an (.ref cda) ct cc) ⟨us, []⟩ ((("self" : Str) :: fs).zip us)
  sw : ∀ st, d.body.head? = some st → ∀ (e : Expr) (p : Pos), st = .Expr e p → ∀ env : Env, swapsWith e none p.line env = pure false
  ev : ∀ st, d.body.head? = some st → ∀ (o : Expr) (m : Str) (ap : Pos) (as : List Expr) (p p' : Pos), st = .Expr (.Call (.Attribute o m ap) as [] p) p' → ∀ env : Env, ∃ pl : Sem Bool, eval (.Call (.Attribute o m ap) as [] p) env = (do
      let ov ← attributeBase o m env (eval o env)
      standAt ap.atName
      let (f, first) ← holding [ov] (getMethod ov m pl)
      callWith p f first (backTo p (starEach as env)) [])
theorem txt_of {prog : Program} {K : PySem.W.Frag} {d : IniD} {fs : List Str} (e : iniW K d.cls = d.val) (h : errB prog.main.file K d.cls fs = true) (I : IniS prog d fs) :
    PySem.DErr.Txt prog K (He.ga K d.cls) (He.ma K (He.ga K d.cls) "__init__") fs := by
  obtain ⟨h1, h⟩ := He.ba h
  obtain ⟨h2, h⟩ := He.ba h
  obtain ⟨h3, h⟩ := He.ba h
  obtain ⟨h4, h⟩ := He.ba h
  obtain ⟨h5, h⟩ := He.ba h
  obtain ⟨h6, h⟩ := He.ba h
  obtain ⟨h7, h⟩ := He.ba h
  obtain ⟨h8, h9⟩ := He.ba h
  refine ⟨oexB_ok h1, fun f hf => He.eqO_ok (List.all_eq_true.mp h2 f hf), He.eqO_ok h3, of_decide_eq_true h4, of_decide_eq_true h5, He.eqO_ok h6, He.eqO_ok h7, of_decide_eq_true h8, ?_⟩
  unfold iniW at e
  cases q : K.lookup (He.ma K (He.ga K d.cls) "__init__") with
  | none => rw [q] at h9; cases h9
  | some o =>
    obtain ⟨oc, od, dt, osl⟩ := o
    rw [q] at h9 e
    cases dt with
    | func fd =>
      obtain ⟨n1, n2, n3, n4, n5, n6, n7, n8, n9, n10, n11, n12, n13, n14, n15⟩ := fd
      have e2 : (some (n1, n2, n3, n4, n5, n6, n7.map (·.1), n15) : IniW) = (some (("__init__" : Str), d.qual, d.params, FuncBody.stmts d.body, d.scope, mainGlobals, [("__class__" : Str)], builtinsNs) : IniW) := e
      simp only [Option.some.injEq, Prod.mk.injEq] at e2
      obtain ⟨e1, e2, e3, e4, e5, e6, e7, e8⟩ := e2
      subst e1 e2 e3 e4 e5 e6 e8
      obtain ⟨k1, h9⟩ := He.ba h9
      obtain ⟨k0, k1⟩ := He.ba k1
      obtain ⟨k2, k3⟩ := He.ba h9
      have hd : n8 = .none := by
        cases n8 with
        | none => rfl
        | _ => cases k0
      match n7, e7, k2 with
      | [(nm, cc)], e7, k2 =>
        have enm : nm = "__class__" := by simpa using e7
        subst enm
        cases q2 : K.lookup cc with
        | none => simp only [q2] at k2; cases k2
        | some oc2 =>
          obtain ⟨c1, c2, c3, c4⟩ := oc2
          simp only [q2] at k2
          cases c3 with
          | cell v =>
            cases v with
            | some v =>
              cases v with
              | ref C' =>
                have hC : C' = He.ga K d.cls := of_decide_eq_true k2
                subst hC
                cases n13 with
                | ref cda =>
                  simp only at k3
                  cases q3 : K.lookup cda with
                  | none => rw [q3] at k3; cases k3
                  | some od3 =>
                    obtain ⟨d1, d2, d3, d4⟩ := od3
                    rw [q3] at k3
                    cases d3 with
                    | fields vs =>
                      simp only at k3
                      cases q4 : (vs[2]? : Option Value) with
                      | none => rw [q4] at k3; cases k3
                      | some u =>
                        rw [q4] at k3
                        cases u with
                        | str f tf =>
                          obtain ⟨ar, ha1, ha2⟩ := I.ar
                          exact ⟨oc, od, d.qual, d.params, d.body, d.scope, n8, n9, n10, n11, n12, cda, cc, n14, osl, c1, c2, c4, d1, d2, vs, d4, f, tf, ar, rfl, k1, I.body, q2, q3, q4, k3, I.top, ha1, ha2, I.kind, I.co, I.gen, I.nc, I.sup, I.clf, I.loc, I.nd, I.db,
                            fun s us hl => I.bind n8 n9 n10 n11 n12 cda n14 cc s us hd hl, I.sw, I.ev⟩
                        | _ => cases k3
                    | _ => cases k3
                | _ => cases k3
              | _ => cases k2
            | none => cases k2
          | _ => cases k2
    | _ => cases h9
/-! ### the Hook -/
def asZ (g : Addr → Option Obj) (n : Nat) : List Addr := (He.asD g n ++ [cStatics]).eraseDups
structure SaysZ (fa : List He.Fa) (fn : List He.DefD) (tf : List He.Defn) (ini : List IniD) (ex : PySem.W.Frag → Bool) (h : Heap) (K : PySem.W.Frag) : Prop where
  d : He.SaysD fa fn K
  more : ex K = true
  ini : ini.map (fun d => iniW K d.cls) = ini.map IniD.val
  hd : ∀ p ∈ tf, PySem.W.codeHdIn K (He.cT K p).1 (He.cT K p).2 = true
  out : ∀ p ∈ tf, K.lookup (He.cT K p).2 = none
  empty : ∀ p ∈ tf, h.get? (He.cT K p).2 = some { cls := .none, data := .fields #[] }
abbrev AlZ : Type := He.AlD × Bool × List IniW
def obsZ (n : Nat) (fa : List He.Fa) (fn : List He.DefD) (tf : List He.Defn) (ini : List IniD) (ex : PySem.W.Frag → Bool) (g : Addr → Option Obj) : AlZ :=
  (He.obsD fa fn (He.frT g (asZ g n)), ex (He.frT g (asZ g n)) && He.tabsB g tf (He.frT g (asZ g n)), ini.map fun d => iniW (He.frT g (asZ g n)) d.cls)
def valZ (fn : List He.DefD) (ini : List IniD) : AlZ := (He.valD fn, true, ini.map IniD.val)
theorem saysZ_of {n : Nat} {fa : List He.Fa} {fn : List He.DefD} {tf : List He.Defn} {ini : List IniD} {ex : PySem.W.Frag → Bool} {h : Heap} (e : obsZ n fa fn tf ini ex h.get? = valZ fn ini) : SaysZ fa fn tf ini ex h (He.frT h.get? (asZ h.get? n)) := by
  have e1 : He.obsD fa fn (He.frT h.get? (asZ h.get? n)) = He.valD fn := congrArg (fun z : AlZ => z.1) e
  have e2 : (ex (He.frT h.get? (asZ h.get? n)) && He.tabsB h.get? tf (He.frT h.get? (asZ h.get? n))) = true := congrArg (fun z : AlZ => z.2.1) e
  have e3 : ini.map (fun d => iniW (He.frT h.get? (asZ h.get? n)) d.cls) = ini.map IniD.val := congrArg (fun z : AlZ => z.2.2) e
  obtain ⟨h1, h2⟩ := He.ba e2
  have key : ∀ p ∈ tf, PySem.W.codeHdIn (He.frT h.get? (asZ h.get? n)) (He.cT (He.frT h.get? (asZ h.get? n)) p).1 (He.cT (He.frT h.get? (asZ h.get? n)) p).2 = true ∧ ∃ o, h.get? (He.cT (He.frT h.get? (asZ h.get? n)) p).2 = some o ∧ He.emptyTab o = true := fun p hp => by
    obtain ⟨h3, h4⟩ := He.ba (List.all_eq_true.mp h2 p hp)
    refine ⟨h3, ?_⟩
    cases q : h.get? (He.cT (He.frT h.get? (asZ h.get? n)) p).2 with
    | none =>
      rw [q] at h4
      cases h4
    | some o =>
      rw [q] at h4
      exact ⟨o, rfl, h4⟩
  exact ⟨e1, h1, e3, fun p hp => (key p hp).1, fun p hp => by
    obtain ⟨_, o, q, z⟩ := key p hp
    exact He.frT_none q z, fun p hp => by
    obtain ⟨_, o, q, z⟩ := key p hp
    rw [q, He.emptyTab_eq z]⟩
def hookZ (n : Nat) (fa : List He.Fa) (fn : List He.DefD) (tf : List He.Defn) (ini : List IniD) (ex : PySem.W.Frag → Bool) : PySem.W.Hook where
  α := AlZ
  obs := fun s => obsZ n fa fn tf ini ex s.heap.get?
  val := fun _ => valZ fn ini
  says := fun _ h => ∃ K : PySem.W.Frag, K.In h ∧ SaysZ fa fn tf ini ex h K
  of := fun _ _ e => ⟨_, He.frT_in, saysZ_of e⟩
  keeps := fun _ _ _ ⟨K, hK, c⟩ k => ⟨K, PySem.W.Frag.In.keeps hK k, ⟨c.d, c.more, c.ini, c.hd, c.out, fun p hp => k _ _ (c.empty p hp)⟩⟩
theorem obsZ_eq {n : Nat} {fa : List He.Fa} {fn : List He.DefD} {tf : List He.Defn} {ini : List IniD} {ex : PySem.W.Frag → Bool} {g : Addr → Option Obj} {s : Shared} (h : ∀ a, g a = s.heap.get? a) : obsZ n fa fn tf ini ex g = (hookZ n fa fn tf ini ex).obs s := by
  have e : g = s.heap.get? := funext h
  rw [e] <;> rfl
end DL

set_option Elab.async false
set_option linter.all false
set_option maxRecDepth 100000
set_option maxHeartbeats 2000000
/-! The end: the law's call, its promise kept where no repr is under way (after HandS.EndTab, whose premise is FnOk). -/
namespace DL
open PySem PySem.Spec PyProof.Rows L2 LamX
theorem law_callG {P : Program} {w : World} {K : PySem.W.Frag} {mg mb : Str → Option Value} {CX : CXT} {k : Nat} {fa a : Addr} {cs : List (Addr × Addr)} {fd : FuncData} {x : Str} {sp : Sp} {s₁ : Shared} {vs : List Value} {ns : List Int}
    (KX : K.In s₁.heap) (hns : s₁.heap.Ns mainGlobals mg) (hb : s₁.heap.Ns builtinsNs mb) (hbb : ∀ x : Str, x ≠ "__name__" → mb x = bootBuiltins x) (hlim : s₁.heap.NoLimit) (hg : s₁.gens = #[])
    (hT : ∀ p ∈ cs, s₁.heap.get? p.2 = some { cls := .none, data := .fields #[] }) (nT : ∀ p ∈ cs, K.lookup p.2 = none) (C : ∀ p ∈ cs, PySem.W.CodeHd s₁.heap p.1 p.2)
    (hbm : ∃ (bm : Addr) (ob : Obj), mg "__builtins__" = some (.ref bm) ∧ bm ≠ builtinsNs ∧ s₁.heap.get? bm = some ob ∧ ob.cls = .type "module" ∧ ob.dict = some builtinsNs ∧ ob.data = .plain)
    (ha : s₁.heap.get? a = some { cls := .type "list", data := .seq vs.toArray }) (hi : IntsAre vs ns) (hl : ns.length ≤ sizeLine) (hr : Room k callerA)
    (F : ∀ base : Heap, K.In base → base.Ns mainGlobals mg → (∀ p ∈ cs, TabB base mg p.1 p.2) → FnG P w K mg base CX k fa fd [x] sp) (hbind : ∀ (s : Shared) (u : Value), BindsTo s fd ⟨[u], []⟩ [(x, u)])
    (hsp : ∀ H : Hp, (∀ p ∈ cs, H p.2 = some (.tbl #[])) → SqL K H a (ns.map V.int) → sp [.ref a] H (fun v _ => v = .bl true) fun _ _ _ => False)
    (hCX : ∀ H e s', CX [] H s₁ (fun _ _ _ => False) e s' → False) :
    codeAny (model P w) callerA (.call (.ref fa) ⟨[.ref a], []⟩) (fun r s' => r = .ok (.ret (.bool true)) ∧ OldK s₁.heap s'.heap ∧ s'.os = s₁.os ∧ AllBare s'.gens) s₁ := by
  have rv := vals_ints hi
  have lenV := hi.length
  have isT : ∀ b : Addr, b ∈ cs.map (·.2) → s₁.heap.get? b = some { cls := .none, data := .fields #[] } := fun b hb => by
    obtain ⟨p, hp, e⟩ := List.mem_map.mp hb
    rw [← e]
    exact hT p hp
  have aT : a ∉ cs.map (·.2) := fun z => by
    have q := isT a z
    rw [ha] at q
    have z' : Data.seq vs.toArray _ = Data.fields #[] := congrArg Obj.data (Option.some.inj q)
    cases z'
  have memT : ∀ p ∈ cs, p.2 ∈ cs.map (·.2) := fun p hp => List.mem_map.mpr ⟨p, hp, rfl⟩
  -- from an abstract heap in which nothing but the script and the tables may be tracked
  have core : ∀ H : Hp, (∀ p ∈ cs, H p.2 = some (.tbl #[])) → (∀ b, H b = none ∨ b ∈ cs.map (·.2) ∨ ∃ o xs, H b = some (.frz o (.lst xs))) → SqL K H a (ns.map V.int) → HOk P w H s₁.heap → (∀ b, H b ≠ none → b = a ∨ b ∈ cs.map (·.2)) → (H a ≠ none → K.lookup a = none) →
      codeAny (model P w) callerA (.call (.ref fa) ⟨[.ref a], []⟩) (fun r s' => r = .ok (.ret (.bool true)) ∧ OldK s₁.heap s'.heap ∧ s'.os = s₁.os ∧ AllBare s'.gens) s₁ := by
    intro H hH hO hS hok hA hK
    have base_of : ∀ {b : Addr} {o : Obj}, s₁.heap.get? b = some o → H b = none → (hidT s₁.heap H).get? b = some o := fun e n => hidT_get e n
    have noD : ∀ {b : Addr} {o : Obj}, s₁.heap.get? b = some o → (∀ vs n, o.data ≠ .seq vs n) → o.data ≠ .fields #[] → H b = none := fun {b o} e h1 h2 => by
      cases q : H b with
      | none => rfl
      | some u =>
        rcases hA b (by rw [q]; simp) with e' | e'
        · rw [e', ha] at e
          cases e
          exact (h1 _ _ rfl).elim
        · rw [isT b e'] at e
          cases e
          exact (h2 rfl).elim
    have noA : ∀ {b : Addr} {o : Obj} {es : Array DictEntry} {ep : Nat}, s₁.heap.get? b = some o → o.data = .dict es ep → H b = none := fun {b o es ep} e d => by
      refine noD e (fun vs n z => ?_) fun z => ?_
      · rw [d] at z
        cases z
      · rw [d] at z
        cases z
    have nsK : ∀ {b : Addr} {m : Str → Option Value}, s₁.heap.Ns b m → (hidT s₁.heap H).Ns b m := fun {b m} ⟨o, es, ep, e, d, r⟩ => ⟨o, es, ep, base_of e (noA e d), d, r⟩
    have hKb : K.In (hidT s₁.heap H) := fun b o e => base_of (KX b o e) (by
      cases q : H b with
      | none => rfl
      | some u =>
        rcases hA b (by rw [q]; simp) with e' | e'
        · rw [e'] at e q
          rw [hK (by rw [q]; simp)] at e
          cases e
        · obtain ⟨p, hp, ep⟩ := List.mem_map.mp e'
          rw [← ep, nT p hp] at e
          cases e)
    have hM : L2.Mod K mg (hidT s₁.heap H) := ⟨hKb, nsK hns, ⟨mb, nsK hb, hbb⟩, let ⟨mc, h1, h2⟩ := hlim; ⟨mc, nsK h1, h2⟩⟩
    have TB : ∀ p ∈ cs, TabB (hidT s₁.heap H) mg p.1 p.2 := fun p hp => by
      have hTp := hT p hp
      refine ⟨?_, ?_, fun z => ?_⟩
      · obtain ⟨o, us, file, tf, flags, tg, inF, text, tt, e1, r1, r2, r3, r4, r5, r6, r7, r8, hne⟩ := C p hp
        refine ⟨o, us, file, tf, flags, tg, inF, text, tt, base_of e1 (noD e1 (fun vs n z => ?_) fun z => ?_), r1, r2, r3, r4, r5, r6, r7, r8, hne⟩
        · rw [r2] at z
          cases z
        · rw [r2] at z
          cases z
          simp at r3
      · obtain ⟨bm, ob, b1, b2, b3, b4, b5, b6⟩ := hbm
        have nG : bm ≠ mainGlobals := fun q => by
          obtain ⟨o, es, ep, e, hd, _⟩ := hns
          rw [q, e] at b3
          cases b3
          rw [hd] at b6
          cases b6
        have nP : bm ≠ p.2 := fun q => by
          rw [q, hTp] at b3
          cases b3
          cases b6
        refine ⟨bm, ob, b1, b2, nG, nP, base_of b3 (noD b3 (fun vs n z => ?_) fun z => ?_), b4, b5, b6⟩
        · rw [b6] at z
          cases z
        · rw [b6] at z
          cases z
      · obtain ⟨o, es, ep, e, hd, _⟩ := hns
        rw [z, hTp] at e
        cases e
        cases hd
    have e0 : Env0 P w K mg (hidT s₁.heap H) callerA [] s₁ H := ⟨rfl, hM, fun b o e => of_hidT e, Nat.le_of_eq (hidT_size _ _), trivial, fun b hb => absurd (show b ∈ ([] : List Addr) from hb) (by simp), hok, .of_eq hg⟩
    refine codeAny_mono ((F _ hKb (nsK hns) TB).run callerA [] s₁ H ⟨[.ref a], []⟩ [.ref a] [.ref a] _ _ hr rfl e0 (hbind s₁ (.ref a)) (.cons rfl .nil) (hsp H hH hS)) fun r s' h => ?_
    cases r with
    | error e => exact (hCX H e s' h).elim
    | ok fl =>
      cases fl with
      | next => exact False.elim h
      | brk => exact False.elim h
      | cont => exact False.elim h
      | ret u =>
        obtain ⟨v, H', os, bare, un, hok', r', q⟩ := h
        have q' : v = .bl true := q
        subst q'
        obtain rfl : u = Value.bool true := r'
        have key : ∀ b o, b ∉ cs.map (·.2) → s₁.heap.get? b = some o → s'.heap.get? b = some o := fun b o nb e => by
          cases q : H b with
          | none => exact un.keep b o e q (by intro z; exact absurd (show b ∈ ([] : List Addr) from z) (by simp)) (by simp)
          | some u =>
            rcases hO b with z | z | ⟨ob, xs, z⟩
            · rw [q] at z; cases z
            · exact absurd z nb
            · have z2 := un.frzs b ob _ z
              obtain ⟨e1, _⟩ := hok b _ z
              obtain ⟨e2, _⟩ := hok' b _ z2
              rw [e] at e1; cases e1
              exact e2
        have grown : ∀ p ∈ cs, ∃ more : Array Value, s'.heap.get? p.2 = some { cls := .none, data := .fields more } := fun p hp => by
          obtain ⟨more, z⟩ := un.tbls p.2 #[] (hH p hp)
          exact ⟨_, hok' p.2 _ z⟩
        refine ⟨rfl, ⟨fun b o e => ?_, fun b o e => ?_⟩, os, bare⟩
        · by_cases hb : b ∈ cs.map (·.2)
          · obtain ⟨p, hp, ep⟩ := List.mem_map.mp hb
            obtain ⟨more, hm⟩ := grown p hp
            rw [← ep] at e ⊢
            rw [hT p hp] at e
            cases e
            exact .inr (.inl ⟨((C p hp).tab (hT p hp)).isCodeTable, rfl, #[], more, rfl, by rw [Array.empty_append]; exact hm⟩)
          · exact .inl (key b o hb e)
        · by_cases hb : b ∈ cs.map (·.2)
          · obtain ⟨p, hp, ep⟩ := List.mem_map.mp hb
            obtain ⟨more, hm⟩ := grown p hp
            rw [← ep]
            exact ⟨_, hm⟩
          · exact ⟨o, key b o hb e⟩
  cases hk : K.lookup a with
  | some o =>
    have e := KX a o hk
    rw [ha] at e
    cases e
    refine core (fun b => if b ∈ cs.map (·.2) then some (.tbl #[]) else none) (fun p hp => if_pos (memT p hp)) (fun b => ?_) (.inr ⟨_, vs.toArray, _, hk, rfl, rfl, rfl, by rw [List.size_toArray, lenV]; exact hl, by simpa using rv⟩) (fun b u z => ?_) (fun b z => ?_) fun z => absurd (show (if a ∈ cs.map (·.2) then some (HO.tbl #[]) else none) = none from if_neg aT) z
    · by_cases hb : b ∈ cs.map (·.2)
      · exact .inr (.inl hb)
      · exact .inl (if_neg hb)
    · by_cases hb : b ∈ cs.map (·.2)
      · have z' := (if_pos hb).symm.trans z
        cases z'
        exact isT b hb
      · have z' := (if_neg hb).symm.trans z
        cases z'
    · by_cases hb : b ∈ cs.map (·.2)
      · exact .inr hb
      · exact absurd (if_neg hb) z
  | none =>
    refine core (fun b => if b = a then some (.frz { cls := .type "list", data := .seq vs.toArray } (.lst (ns.map V.int))) else if b ∈ cs.map (·.2) then some (.tbl #[]) else none) (fun p hp => (if_neg (show ¬ p.2 = a from fun z => aT (by rw [← z]; exact memT p hp))).trans (if_pos (memT p hp))) (fun b => ?_)
      (.inl (.inr ⟨{ cls := .type "list", data := .seq vs.toArray }, if_pos rfl⟩)) (fun b u z => ?_) (fun b z => ?_) fun _ => hk
    · by_cases hb : b = a
      · exact .inr (.inr ⟨_, _, if_pos hb⟩)
      · by_cases hb2 : b ∈ cs.map (·.2)
        · exact .inr (.inl hb2)
        · exact .inl ((if_neg hb).trans (if_neg hb2))
    · by_cases hb : b = a
      · have z' := (if_pos hb).symm.trans z
        cases z'
        rw [hb]
        exact ⟨ha, by rw [List.length_map]; exact hl, vs, _, rv, ha⟩
      · have z1 := (if_neg hb).symm.trans z
        by_cases hb2 : b ∈ cs.map (·.2)
        · have z' := (if_pos hb2).symm.trans z1
          cases z'
          exact isT b hb2
        · have z' := (if_neg hb2).symm.trans z1
          cases z'
    · by_cases hb : b = a
      · exact .inl hb
      · by_cases hb2 : b ∈ cs.map (·.2)
        · exact .inr hb2
        · exact absurd ((if_neg hb).trans (if_neg hb2)) z

/-- what is known of the law's promise at the head's heap h -/
def LawAtG (l : PySem.W.OpenLaw) (w : World) (K : PySem.W.Frag) (CX : CXT) (k n : Nat) (x : Str) (mg : Str → Option Value) (fa : Addr) (h : Heap) : Prop :=
  ∃ (fd : FuncData) (cs : List (Addr × Addr)) (sp : Sp), (∀ p ∈ cs, h.get? p.2 = some { cls := .none, data := .fields #[] }) ∧ (∀ p ∈ cs, K.lookup p.2 = none) ∧ (∀ p ∈ cs, PySem.W.CodeHd h p.1 p.2) ∧ (∀ (s : Shared) (u : Value), BindsTo s fd ⟨[u], []⟩ [(x, u)]) ∧
    (∀ (H : Hp) (a : Addr) (ns : List Int), ns.length ≤ n → (∀ z ∈ ns, Builtin.Int.intBits z ≤ 1048576) → (∀ p ∈ cs, H p.2 = some (.tbl #[])) → SqL K H a (ns.map V.int) → sp [.ref a] H (fun v _ => v = .bl true) fun _ _ _ => False) ∧
    ∀ base : Heap, K.In base → base.Ns mainGlobals mg → (∀ p ∈ cs, TabB base mg p.1 p.2) → FnG l.prog w K mg base CX k fa fd [x] sp
theorem walk_ofG {l : PySem.W.OpenLaw} {n k : Nat} {q : Program} {loose : List Str} {XP : (Str → Option Value) → Heap → Prop} {YP : World → Heap → Prop} {d : DefRec} {CX : World → CXT} {x : Str}
    (hn : l.most = some n) (hn2 : n ≤ sizeLine) (hdf : d.params.defaults = []) (hr : Room k callerA)
    (F : ∀ (w : World) (mg : Str → Option Value) (fa : Addr) (h : Heap), YP w h → h.Ns mainGlobals mg → mg d.name = some (.ref fa) → ∃ K : PySem.W.Frag, K.In h ∧ LawAtG l w K (CX w) k n x mg fa h)
    (hCX : ∀ (w : World) (H : Hp) (s : Shared) (e : Value) (s' : Shared), CX w [] H s (fun _ _ _ => False) e s' → False) :
    PySem.W.WalkO q loose XP YP l.row.toRowW d [] (fun f vs => PySem.call f vs) := by
  refine Att.attach_callB hn hdf fun w s₀ s₁ mg mb fa o pm cd doc a vs ns G Y ho hd hcd hmg hobj hints hlen hbits hg => ?_
  obtain ⟨K, KX, fd, cs, sp, hT, nT, C, hb, hsp, hF⟩ := F w mg fa _ Y G.T.g hmg
  exact law_callG KX G.T.g G.T.b G.T.builtins G.T.nolimit hg hT nT C G.T.bmain hobj hints (Nat.le_trans hlen hn2) hr hF hb (fun H hH hS => hsp H a ns hlen hbits hH hS) fun H e s' => hCX w H s₁ e s'
theorem noCX {P : Program} {w : World} (H : Hp) (s : Shared) (e : Value) (s' : Shared) (c : L2.CX P w [] H s (fun _ _ _ => False) e s') : False := by
  obtain ⟨_, _, _, _, _, _, _, _, _, _, _, _, z⟩ := c
  exact z
end DL
namespace DL
open PySem PySem.Spec PyProof.Rows L2 LamX
/-! ### the facts that a law's defs lean on -/
structure TZ (fa : List He.Fa) (fn : List He.DefD) (tf : List He.Defn) (ini : List IniD) (ex : PySem.W.Frag → Bool) (K : PySem.W.Frag) (mg : Str → Option Value) (base : Heap) : Prop where
  tx : TX fa fn K mg
  more : ex K = true
  ini : ini.map (fun d => iniW K d.cls) = ini.map IniD.val
  tb : ∀ p ∈ tf, TabB base mg (He.cT K p).1 (He.cT K p).2
theorem ini_at {ini : List IniD} {K : PySem.W.Frag} (h : ini.map (fun d => iniW K d.cls) = ini.map IniD.val) (i : Nat) {d : IniD} (e : ini[i]? = some d) : iniW K d.cls = d.val := by
  have e2 : (ini.map fun d => iniW K d.cls)[i]? = (ini.map IniD.val)[i]? := by rw [h]
  rw [List.getElem?_map, List.getElem?_map, e] at e2
  exact Option.some.inj e2
def kinds6 : List String := ["NoneType", "bool", "int", "str", "tuple", "list"]
/-- instances of the class at C are asked by isinstance; values of the kinds are none of them -/
def insB (K : PySem.W.Frag) (x : Str) : Bool := He.eqO (PySem.W.findIn K (.ref (He.ga K x)) "__class__") (some (some (.builtin "object.__class__"))) && (He.eqO (PySem.W.specialIn K (.builtin "object.__class__") "__get__") (some (some (.builtin "getset_descriptor.__get__"))) &&
  (decide (PySem.W.takesIn K (.builtin "object.__class__") = some true) && (decide (PySem.W.mroIn K (He.ga K x) (.type "object") = some true) && (kinds6.all fun k => decide (PySem.W.kitOne K (.type k) (.ref (He.ga K x)) = some false)))))
theorem insB_ok {K : PySem.W.Frag} {x : Str} (c : Cls K (He.ga K x)) (h : insB K x = true) : InsOk K (He.ga K x) ∧ ∀ k ∈ ["NoneType", "bool", "int", "str", "tuple", "list"], PySem.W.kitOne K (.type k) (.ref (He.ga K x)) = some false := by
  obtain ⟨h1, h⟩ := He.ba h
  obtain ⟨h2, h⟩ := He.ba h
  obtain ⟨h3, h⟩ := He.ba h
  obtain ⟨h4, h5⟩ := He.ba h
  exact ⟨⟨c, He.eqO_ok h1, He.eqO_ok h2, of_decide_eq_true h3, of_decide_eq_true h4⟩, fun k hk => of_decide_eq_true (List.all_eq_true.mp h5 k hk)⟩
def kitB2 (K : PySem.W.Frag) (x y : Str) (b : Bool) : Bool := decide (PySem.W.kitOne K (.ref (He.ga K x)) (.ref (He.ga K y)) = some b)
/-- a tuple of texts of the top -/
def konB (K : PySem.W.Frag) (x : Str) (vs : List Str) : Bool := match K.lookup (He.ga K x) with
  | some ⟨.type c, none, .seq its _, _⟩ => decide (c = "tuple") && (decide (its.size ≤ sizeLine) && He.relAll (vs.map V.str) its.toList)
  | _ => false
theorem konB_ok {K : PySem.W.Frag} {x : Str} {vs : List Str} (h : konB K x vs = true) : (∀ H, SqT K H (He.ga K x) (vs.map V.str)) ∧ ∃ o, K.lookup (He.ga K x) = some o ∧ o.cls = .type "tuple" ∧ o.dict = none := by
  unfold konB at h
  cases q : K.lookup (He.ga K x) with
  | none => rw [q] at h; cases h
  | some o =>
    obtain ⟨oc, od, dt, osl⟩ := o
    rw [q] at h
    cases oc with
    | type c =>
      cases od with
      | none =>
        cases dt with
        | seq its n =>
          obtain ⟨h1, h2⟩ := He.ba h
          obtain ⟨h3, h4⟩ := He.ba h2
          have e : c = "tuple" := of_decide_eq_true h1
          subst e
          exact ⟨fun H => .inr ⟨_, its, n, q, rfl, rfl, of_decide_eq_true h3, He.relAll_ok h4⟩, _, rfl, rfl, rfl⟩
        | _ => cases h
      | some d => cases dt <;> cases h
    | _ => cases od <;> cases dt <;> cases h
theorem rpl_strs {Y : Lay} {G : Hp} : ∀ vs : List Str, RpL Y G (vs.map fun s => D.str s.cps.toList) (vs.map V.str)
  | [] => RpL.nil
  | v :: vs => RpL.cons (by
      have z := rp_str (Y := Y) (G := G) v.cps.toList
      rwa [S_toList] at z) (rpl_strs vs)
/-- an own == -/
def eqB (K : PySem.W.Frag) (x : Str) : Bool := kinds6.all fun k => PySem.W.notFirst K (He.ga K x) (.type k)
theorem eqB_ok {K : PySem.W.Frag} {Y : Lay} {c : Nat} {x : Str} (hC : Y.C c = He.ga K x) (M : Meth K (He.ga K x) "__eq__" (He.ma K (He.ga K x) "__eq__")) (h : eqB K x = true) : EqOwn K Y c (He.ma K (He.ga K x) "__eq__") := by
  refine ⟨by rw [hC]; exact M.1, by rw [hC] at *; exact M.2, fun k hk => by rw [hC]; exact List.all_eq_true.mp h k hk⟩
/-- a class of errors: asked, its fields read -/
def excB (K : PySem.W.Frag) (x : Str) : Bool := He.eqO (PySem.W.findIn K (.ref (He.ga K x)) "__getattribute__") (some (some (.builtin "BaseException.__getattribute__"))) && (He.eqO (PySem.W.findIn K (.ref (He.ga K x)) "__getattr__") (some none) &&
  (decide (PySem.W.subIn K (.ref (He.ga K x)) (.type "BaseException") = some true) && (PySem.W.hasDictIn K (He.ga K x) && (He.eqO (PySem.W.findIn K (.ref (He.ga K x)) "__class__") (some (some (.builtin "object.__class__"))) &&
  (He.eqO (PySem.W.specialIn K (.builtin "object.__class__") "__get__") (some (some (.builtin "getset_descriptor.__get__"))) && (decide (PySem.W.takesIn K (.builtin "object.__class__") = some true) && decide (PySem.W.mroIn K (He.ga K x) (.type "object") = some true)))))))
theorem excB_ok {K : PySem.W.Frag} {x : Str} (h : excB K x = true) : ExcC K (He.ga K x) ∧ XfC K (He.ga K x) := by
  obtain ⟨h1, h⟩ := He.ba h
  obtain ⟨h2, h⟩ := He.ba h
  obtain ⟨h3, h⟩ := He.ba h
  obtain ⟨h4, h⟩ := He.ba h
  obtain ⟨h5, h⟩ := He.ba h
  obtain ⟨h6, h⟩ := He.ba h
  obtain ⟨h7, h8⟩ := He.ba h
  exact ⟨⟨He.eqO_ok h1, He.eqO_ok h2, of_decide_eq_true h3, h4, He.eqO_ok h5, He.eqO_ok h6, of_decide_eq_true h7, of_decide_eq_true h8⟩, ⟨He.eqO_ok h1, He.eqO_ok h2, of_decide_eq_true h3, h4⟩⟩
end DL

set_option Elab.async false
set_option linter.all false
set_option maxRecDepth 100000
/-! name = zip(a, b, c); return all([.. for x, y, z in name]) -/
namespace DL
open PySem PySem.Spec PyProof.Rows L2
/-! ### tracked by their very objects -/
def AtO (a : Addr) (o : Obj) : HO := .ext fun h => h.get? a = some o
def layH (H : Hp) : List (Addr × Obj) → Hp
  | [] => H
  | (a, o) :: l => layH (upd H a (AtO a o)) l
section
variable {X : Cx} {pins : List (Addr × Obj)} {σ : L2.St}
theorem atO_ok {H : Hp} {h : Heap} {a : Addr} {o : Obj} (e : h.get? a = some o) : ObjOk X.prog X.w H h a (AtO a o) := ⟨e, ⟨o, e⟩, fun h1 h2 p st => st _ p⟩
theorem inv_lays : ∀ (l : List (Addr × Obj)) {H : Hp} {s : Shared} {h' : Heap} {tk : Nat}, Inv X pins σ H s → (∀ b o, s.heap.get? b = some o → h'.get? b = some o) → (l.map (·.1)).Nodup → (∀ e ∈ l, s.heap.get? e.1 = none ∧ H e.1 = none ∧ h'.get? e.1 = some e.2) →
    Inv X pins σ (layH H l) { s with heap := h', toks := tk }
  | [], H, s, h', tk, I, k, _, _ => I.kept (t' := tk) k
  | (a, o) :: l, H, s, h', tk, I, k, nd, hl => by
    obtain ⟨e1, e2, e3⟩ := hl (a, o) List.mem_cons_self
    have nd1 := List.nodup_cons.mp nd
    obtain ⟨G, g1, g2⟩ := restrict h' fun b => !(l.map (·.1)).contains b
    have gk : ∀ b, b ∉ l.map (·.1) → G.get? b = h'.get? b := fun b hb => g1 b (by simpa using hb)
    have gn : ∀ b, b ∈ l.map (·.1) → G.get? b = none := fun b hb => g2 b (by simpa using hb)
    have old : ∀ b u, s.heap.get? b = some u → G.get? b = some u := fun b u q => by
      rw [gk b fun hb => ?_]
      · exact k b u q
      · obtain ⟨e, he, rfl⟩ := List.mem_map.mp hb
        rw [(hl e (List.mem_cons_of_mem _ he)).1] at q
        cases q
    have I1 : Inv X pins σ (upd H a (AtO a o)) { s with heap := G, toks := tk } := I.laidN (t' := tk) old e1 e2 (atO_ok (by rw [gk a nd1.1]; exact e3))
    refine inv_lays l (s := { s with heap := G, toks := tk }) I1 (fun b u q => ?_) nd1.2 fun e he => ⟨gn _ (List.mem_map_of_mem he), ?_, (hl e (List.mem_cons_of_mem _ he)).2.2⟩
    · have q : G.get? b = some u := q
      by_cases hb : b ∈ l.map (·.1)
      · rw [gn b hb] at q; cases q
      · rw [gk b hb] at q; exact q
    · have n : e.1 ≠ a := fun z => nd1.1 (List.mem_map.mpr ⟨e, he, z⟩)
      rw [upd_ne n]
      exact (hl e (List.mem_cons_of_mem _ he)).2.1
theorem layH_get : ∀ (l : List (Addr × Obj)) {H : Hp} {b : Addr}, b ∉ l.map (·.1) → layH H l b = H b
  | [], _, _, _ => rfl
  | (a, o) :: l, H, b, hb => by
    rw [List.map_cons, List.mem_cons, not_or] at hb
    rw [layH, layH_get l hb.2, upd_ne hb.1]
theorem layH_at : ∀ (l : List (Addr × Obj)) {H : Hp}, (l.map (·.1)).Nodup → ∀ e ∈ l, layH H l e.1 = some (AtO e.1 e.2)
  | [], _, _, _, he => by cases he
  | (a, o) :: l, H, nd, e, he => by
    have nd1 := List.nodup_cons.mp nd
    rcases List.mem_cons.mp he with rfl | he
    · rw [layH, layH_get l nd1.1, upd_same]
    · exact layH_at l nd1.2 e he
theorem inv_drops : ∀ (l : List (Addr × Obj)) {H : Hp} {s : Shared}, Inv X pins σ (layH H l) s → (l.map (·.1)).Nodup → (∀ e ∈ l, H e.1 = none ∧ X.s_0.heap.objs.size ≤ e.1) → Inv X pins σ H s ∧ (∀ e ∈ l, FpOk X pins H e.1) ∧ ∀ e ∈ l, s.heap.get? e.1 = some e.2
  | [], H, s, I, _, _ => ⟨I, fun e he => (by cases he), fun e he => by cases he⟩
  | (a, o) :: l, H, s, I, nd, hl => by
    have nd1 := List.nodup_cons.mp nd
    obtain ⟨e1, e2⟩ := hl (a, o) List.mem_cons_self
    obtain ⟨I1, f1, g1⟩ := inv_drops l (H := upd H a (AtO a o)) I nd1.2 fun e he => ⟨by
      have n : e.1 ≠ a := fun z => nd1.1 (List.mem_map.mpr ⟨e, he, z⟩)
      rw [upd_ne n]
      exact (hl e (List.mem_cons_of_mem _ he)).1, (hl e (List.mem_cons_of_mem _ he)).2⟩
    have ha : upd H a (AtO a o) a = some (.ext fun h => h.get? a = some o) := upd_same
    have I2 := ItX.inv_drop I1 ha
    have fa := ItX.inv_fp I1 ha e2
    rw [ItX.dropH_upd e1] at I2 fa
    refine ⟨I2, fun e he => ?_, fun e he => ?_⟩
    · rcases List.mem_cons.mp he with rfl | he
      · exact fa
      · exact ⟨(hl e (List.mem_cons_of_mem _ he)).1, (f1 e he).2⟩
    · rcases List.mem_cons.mp he with rfl | he
      · exact (I1.hok a _ ha).1
      · exact g1 e he
end
end DL
namespace DL
open PySem PySem.Spec PyProof.Rows L2
/-! ### the turn -/
def ItZ3 (K : PySem.W.Frag) (b1 b2 b3 : Bool) (a1 a2 a3 : Addr) (xs ys zs : List V) : It := ⟨fun i H => (SqK b1 K H a1 xs ∧ SqK b2 K H a2 ys ∧ SqK b3 K H a3 zs) ∧ i < min (min xs.length ys.length) zs.length,
  fun i H v H' => ∃ T x y z, v = .ref T ∧ H T = none ∧ H' = upd H T (.tup [x, y, z]) ∧ xs[i]? = some x ∧ ys[i]? = some y ∧ zs[i]? = some z, fun i H => (SqK b1 K H a1 xs ∧ SqK b2 K H a2 ys ∧ SqK b3 K H a3 zs) ∧ i = min (min xs.length ys.length) zs.length⟩
theorem turnZ3 (b1 b2 b3 : Bool) {P : Program} {w : World} {K : PySem.W.Frag} {elts : List Expr} {kk : Nat} {tpos : Pos} {a1 a2 a3 N : Addr} (xs ys zs : List V) (h1 : a1 < N) (h2 : a2 < N) (h3 : a3 < N) :
    Turn P w K (.Tuple elts kk tpos) (ItZ3 K b1 b2 b3 a1 a2 a3 xs ys zs) [N + 5, N + 3, N + 4, N, N + 1, N + 2] (N + 5) (fun i h => IsZip h (N + 5) (N + 3) (N + 4) .none ∧ IsTupOf3 h (N + 3) (.ref N) (.ref (N + 1)) (.ref (N + 2)) ∧ (∃ x y z, IsTupOf3 h (N + 4) x y z) ∧ IterK b1 h N a1 i ∧ IterK b2 h (N + 1) a2 i ∧ IterK b3 h (N + 2) a3 i) := by
  refine turn_walks (wr := [N + 5, N + 4, N, N + 1, N + 2]) (by simp) (fun b hb => by simp at hb ⊢; rcases hb with h | h | h | h | h <;> simp [h]) (fun i h st c hc => ?_) (fun i h h' st k => ?_) (fun X hP hw hK hc i pins s σ H I st hg => ?_) fun A i s Q E st h => ?_
  · obtain ⟨hz, hTI, ⟨x, y, z, hTO⟩, i1, i2, i3⟩ := st
    have e' : c = N + 5 ∨ c = N + 3 ∨ c = N + 4 ∨ c = N ∨ c = N + 1 ∨ c = N + 2 := by simpa using hc
    rcases e' with z | z | z | z | z | z
    · rw [z]; exact ⟨_, hz, fun v q => nomatch q⟩
    · rw [z]; exact ⟨_, hTI, fun v q => nomatch q⟩
    · rw [z]; exact ⟨_, hTO, fun v q => nomatch q⟩
    · rw [z]; exact iterK_obj b1 i1
    · rw [z]; exact iterK_obj b2 i2
    · rw [z]; exact iterK_obj b3 i3
  · obtain ⟨hz, hTI, ⟨x, y, z, hTO⟩, i1, i2, i3⟩ := st
    exact ⟨k _ (by simp) _ hz, k _ (by simp) _ hTI, ⟨x, y, z, k _ (by simp) _ hTO⟩, iterK_at b1 i1 fun o q => k _ (by simp) o q, iterK_at b2 i2 fun o q => k _ (by simp) o q, iterK_at b3 i3 fun o q => k _ (by simp) o q⟩
  · subst hP hw hK
    have hs : SqK b1 X.K H a1 xs ∧ SqK b2 X.K H a2 ys ∧ SqK b3 X.K H a3 zs := by
      rcases hg with h | h
      · exact h.1
      · exact h.1
    obtain ⟨its, rv, pk⟩ := inv_seqK b1 I hs.1
    obtain ⟨its2, rv2, pk2⟩ := inv_seqK b2 I hs.2.1
    obtain ⟨its3, rv3, pk3⟩ := inv_seqK b3 I hs.2.2
    have hl := rv.length
    have hl2 := rv2.length
    have hl3 := rv3.length
    have S : ZipSep3 (N + 5) (N + 3) (N + 4) N (N + 1) (N + 2) [N, a1] [N + 1, a2] [N + 2, a3] := zip_sep3 (fp1 := [a1]) (fp2 := [a2]) (fp3 := [a3]) (fun b hb => by simp at hb; rw [hb]; exact h1) (fun b hb => by simp at hb; rw [hb]; exact h2) (fun b hb => by simp at hb; rw [hb]; exact h3)
    refine ⟨_, _, _, _, _, WalksT.zipD3 S (drawsK (A := X.A.in1) b1 (I.ok.hd hc) N a1 (Nat.ne_of_lt h1) its.toArray) (drawsK (A := X.A.in1) b2 (I.ok.hd hc) (N + 1) a2 (Nat.ne_of_lt (Nat.lt_succ_of_lt h2)) its2.toArray) (drawsK (A := X.A.in1) b3 (I.ok.hd hc) (N + 2) a3 (Nat.ne_of_lt (Nat.lt_succ_of_lt (Nat.lt_succ_of_lt h3))) its3.toArray),
      ⟨st.1, st.2.1, st.2.2.1, ⟨st.2.2.2.1, pk⟩, ⟨st.2.2.2.2.1, pk2⟩, st.2.2.2.2.2, pk3⟩, fun h' st' => ⟨st'.1, st'.2.1, st'.2.2.1, st'.2.2.2.1.1, st'.2.2.2.2.1.1, st'.2.2.2.2.2.1⟩, fun hg => ?_, fun hg => ?_, fun vals hP => ?_⟩
    · have := hg.2
      simp; omega
    · have := hg.2
      simp; omega
    · obtain ⟨x, y, z, hx, hy, hz, rfl⟩ := hP
      have hx : its[i]? = some x := by simpa using hx
      have hy : its2[i]? = some y := by simpa using hy
      have hz : its3[i]? = some z := by simpa using hz
      obtain ⟨v, hv, r⟩ := vals_inv rv hx
      obtain ⟨v2, hv2, r2⟩ := vals_inv rv2 hy
      obtain ⟨v3, hv3, r3⟩ := vals_inv rv3 hz
      exact ⟨[v, v2, v3], .cons r (.cons r2 (.cons r3 .nil)), by simp, fun T hT => ⟨T, v, v2, v3, rfl, hT, rfl, hv, hv2, hv3⟩⟩
  · exact wpAny_pyIter_zip st.1 h
def zip3L : List D → List D → List D → List D
  | a :: as, b :: bs, c :: cs => .tup [a, b, c] :: zip3L as bs cs
  | _, _, _ => []
theorem zip3_len : ∀ {as bs cs : List D}, (zip3L as bs cs).length = min (min as.length bs.length) cs.length
  | [], _, _ => by simp [zip3L]
  | _ :: _, [], _ => by simp [zip3L]
  | _ :: _, _ :: _, [] => by simp [zip3L]
  | a :: as, b :: bs, c :: cs => by
    rw [zip3L, List.length_cons, zip3_len]
    simp only [List.length_cons]
    omega
theorem zip3_get : ∀ {as bs cs : List D} {i : Nat} {d : D}, (zip3L as bs cs)[i]? = some d → ∃ x y z, as[i]? = some x ∧ bs[i]? = some y ∧ cs[i]? = some z ∧ d = .tup [x, y, z]
  | [], _, _, _, _, h => by simp [zip3L] at h
  | _ :: _, [], _, _, _, h => by simp [zip3L] at h
  | _ :: _, _ :: _, [], _, _, h => by simp [zip3L] at h
  | a :: as, b :: bs, c :: cs, 0, d, h => by
    simp [zip3L] at h
    exact ⟨a, b, c, rfl, rfl, rfl, h.symm⟩
  | a :: as, b :: bs, c :: cs, i + 1, d, h => by
    simp [zip3L] at h
    simpa using zip3_get h
theorem itD_Z3 {Y : Lay} {G1 : Hp} {b1 b2 b3 : Bool} {a1 a2 a3 : Addr} {vs us ws : List V} {ds es fs : List D} (h : SqK b1 Y.K G1 a1 vs) (h' : SqK b2 Y.K G1 a2 us) (h'' : SqK b3 Y.K G1 a3 ws) (r : RpL Y G1 ds vs) (r' : RpL Y G1 es us) (r'' : RpL Y G1 fs ws) :
    ItD Y G1 (zip3L ds es fs) (ItZ3 Y.K b1 b2 b3 a1 a2 a3 vs us ws) := fun i G H le f row => by
  have hs : SqK b1 Y.K H a1 vs ∧ SqK b2 Y.K H a2 us ∧ SqK b3 Y.K H a3 ws := ⟨sqK_mono f (sqK_mono le h), sqK_mono f (sqK_mono le h'), sqK_mono f (sqK_mono le h'')⟩
  have hl := r.length
  have hl2 := r'.length
  have hl3 := r''.length
  refine ⟨fun d hd => ?_, fun hi => ⟨hs, by rw [← hl, ← hl2, ← hl3, hi, zip3_len]⟩⟩
  obtain ⟨x, y, z, hx, hy, hz, rfl⟩ := zip3_get hd
  have h1 := (List.getElem?_eq_some_iff.mp hx).1
  have h2 := (List.getElem?_eq_some_iff.mp hy).1
  have h3 := (List.getElem?_eq_some_iff.mp hz).1
  refine ⟨⟨hs, by omega⟩, fun u H' hu => ?_⟩
  obtain ⟨T, x', y', z', rfl, hT, rfl, e1, e2, e3⟩ := hu
  obtain ⟨v, hv, rv⟩ := r.get hx
  obtain ⟨v2, hv2, rv2⟩ := r'.get hy
  obtain ⟨v3, hv3, rv3⟩ := r''.get hz
  rw [e1] at hv
  rw [e2] at hv2
  rw [e3] at hv3
  cases hv
  cases hv2
  cases hv3
  exact yld_new f row hT (RpL.cons (Rp.mono le rv) (RpL.cons (Rp.mono le rv2) (RpL.cons (Rp.mono le rv3) RpL.nil)))
/-! ### zip(a, b, c) as a value, then walked -/
def zipE (N : Nat) (b1 b2 b3 : Bool) (a1 a2 a3 : Addr) (oz : Obj) : List (Addr × Obj) :=
  [(N, oK b1 a1), (N + 1, oK b2 a2), (N + 2, oK b3 a3), (N + 3, { cls := .type "tuple", data := .seq #[.ref N, .ref (N + 1), .ref (N + 2)] }), (N + 4, { cls := .type "tuple", data := .seq #[.none, .none, .none] }), (N + 5, oz)]
theorem zipE_nd {N : Nat} {b1 b2 b3 : Bool} {a1 a2 a3 : Addr} {oz : Obj} : ((zipE N b1 b2 b3 a1 a2 a3 oz).map (·.1)).Nodup := by
  show ([N, N + 1, N + 2, N + 3, N + 4, N + 5] : List Nat).Nodup
  simp
theorem zipE_ge {N : Nat} {b1 b2 b3 : Bool} {a1 a2 a3 : Addr} {oz : Obj} : ∀ e ∈ zipE N b1 b2 b3 a1 a2 a3 oz, ∃ k : Nat, k < 6 ∧ e.1 = (N + k : Nat) := fun e he => by
  simp only [zipE, List.mem_cons, List.not_mem_nil, or_false] at he
  rcases he with rfl | rfl | rfl | rfl | rfl | rfl
  · exact ⟨0, by decide, rfl⟩
  · exact ⟨1, by decide, rfl⟩
  · exact ⟨2, by decide, rfl⟩
  · exact ⟨3, by decide, rfl⟩
  · exact ⟨4, by decide, rfl⟩
  · exact ⟨5, by decide, rfl⟩
/-- the zip object -/
def zipOb (N : Nat) (h : Heap) : Obj := (h.get? (N + 5)).getD { cls := .none, data := .plain }
def tZip3 (X : Cx) (ta : TA) : TE := fun σ H Q => ta σ H fun vs H1 => ∃ b1 b2 b3 a1 a2 a3 xs ys zs, vs = [.ref a1, .ref a2, .ref a3] ∧ SqK b1 X.K H1 a1 xs ∧ SqK b2 X.K H1 a2 ys ∧ SqK b3 X.K H1 a3 zs ∧
  ∀ (N : Nat) (oz : Obj), (∀ h : Heap, h.get? (N + 5) = some oz → IsZip h (N + 5) (N + 3) (N + 4) .none) → X.s_0.heap.objs.size ≤ N → (∀ k : Nat, H1 (N + k : Nat) = none) → a1 < N → a2 < N → a3 < N → Q (.ref (N + 5 : Nat)) (layH H1 (zipE N b1 b2 b3 a1 a2 a3 oz))
section
variable {X : Cx} {Z : Ct} {k : Nat} {p pos : Pos} {x : Str} {e e2 e3 : Expr} {ta : TA}
theorem pe_zip3 (hg : Gl X "zip") (hm : X.mg "zip" = none) (ha : PA X [e, e2, e3] ta) (hs : starEach [e, e2, e3] X.env = (false, eval e X.env) :: starEach [e2, e3] X.env) (hpl : (backTo pos (starEach [e2, e3] X.env)).any (·.1) = false) :
    PE X (.Call (.Name "zip" p) [e, e2, e3] [] pos) (tZip3 X ta) := by
  refine ⟨fun pins s σ H Q I h => ?_⟩
  refine Call_ (ld_blt I hg hm PyProof.Rows.boot_zip (PyProof.Rows.callWith_type1 (thn (ha.run pos pins s σ H _ I h) fun us s1 ⟨vs, H1, I1, r1, q1⟩ => ?_) hs hpl))
  obtain ⟨b1, b2, b3, a1, a2, a3, xs, ys, zs, ex, hq1, hq2, hq3, q⟩ := q1
  subst ex
  cases r1 with
  | cons r rr =>
    cases rr with
    | cons r' rr =>
      cases rr with
      | cons r'' rr =>
        cases rr
        cases r
        cases r'
        cases r''
        obtain ⟨its, rv, pk⟩ := inv_seqK b1 I1 hq1
        obtain ⟨its2, rv2, pk2⟩ := inv_seqK b2 I1 hq2
        obtain ⟨its3, rv3, pk3⟩ := inv_seqK b3 I1 hq3
        refine zip_begins3 (beginsK b1 a1 its.toArray) (beginsK b2 a2 its2.toArray) (beginsK b3 a3 its3.toArray) pk pk2 pk3 fun h' hz hTI hTO g1 g2 g3 hsz hk => ?_
        have fr : ∀ k : Nat, s1.heap.get? (s1.heap.objs.size + k : Nat) = none := fun k => by
          cases q : s1.heap.get? (s1.heap.objs.size + k : Nat) with
          | none => rfl
          | some o => exact absurd (Heap.lt_size q) (Nat.not_lt.mpr (Nat.le_add_right _ _))
        have frH : ∀ k : Nat, H1 (s1.heap.objs.size + k : Nat) = none := fun k => I1.hok.fresh (Nat.le_add_right _ _)
        have hz0 := hz
        unfold IsZip at hz
        refine ⟨.ref (s1.heap.objs.size + 5 : Nat), _, inv_lays (tk := s1.toks) (zipE s1.heap.objs.size b1 b2 b3 a1 a2 a3 _) I1 hk zipE_nd (fun e he => ?_), rfl, q s1.heap.objs.size _ (fun h e => e) I1.sz frH (isK_lt b1 pk) (isK_lt b2 pk2) (isK_lt b3 pk3)⟩
        obtain ⟨k, _, hk2⟩ := zipE_ge e he
        refine ⟨by rw [hk2]; exact fr k, by rw [hk2]; exact frH k, ?_⟩
        simp only [zipE, List.mem_cons, List.not_mem_nil, or_false] at he
        rcases he with rfl | rfl | rfl | rfl | rfl | rfl
        · exact g1
        · exact g2
        · exact g3
        · exact hTI
        · exact hTO
        · exact hz
def iZ3 (X : Cx) (i : Nat) : TI := fun σ H R => ∃ (H1 : Hp) (N : Nat) (b1 b2 b3 : Bool) (a1 a2 a3 : Addr) (xs ys zs : List V) (oz : Obj), σ[i]? = some (some (.ref (N + 5 : Nat))) ∧ H = layH H1 (zipE N b1 b2 b3 a1 a2 a3 oz) ∧ (∀ h : Heap, h.get? (N + 5) = some oz → IsZip h (N + 5) (N + 3) (N + 4) .none) ∧
  X.s_0.heap.objs.size ≤ N ∧ (∀ k : Nat, H1 (N + k : Nat) = none) ∧ a1 < N ∧ a2 < N ∧ a3 < N ∧ R (ItZ3 X.K b1 b2 b3 a1 a2 a3 xs ys zs) H1
theorem pi_z3 {i : Nat} {elts : List Expr} {kk : Nat} {tpos : Pos} (hN : X.N[i]? = some x) (hv : Vis X.env.scope x) (hd : (x == ("__debug__" : Str)) = false) (hcd : (x == ("__classdict__" : Str)) = false) : PI X (.Tuple elts kk tpos) (.Name x p) (iZ3 X i) := by
  refine ⟨fun pins s σ H R I h => ?_⟩
  obtain ⟨H1, N, b1, b2, b3, a1, a2, a3, xs, ys, zs, oz, hs, rfl, hoz, hn, hf, l1, l2, l3, q⟩ := h
  refine thn ((pe_var (pos := p) (i := i) hN hv hd hcd).run pins s σ _ (fun v H2 => v = .ref (N + 5 : Nat) ∧ H2 = layH H1 (zipE N b1 b2 b3 a1 a2 a3 oz)) I ⟨.ref (N + 5 : Nat), hs, rfl, rfl⟩) fun u s1 ⟨v, H2, I1, r1, ev, eH⟩ => ?_
  subst ev
  rw [eH] at I1
  obtain rfl : u = Value.ref (N + 5 : Nat) := r1
  obtain ⟨I2, fp, get⟩ := inv_drops (zipE N b1 b2 b3 a1 a2 a3 oz) I1 zipE_nd fun e he => by
    obtain ⟨k, _, hk2⟩ := zipE_ge e he
    rw [hk2]
    exact ⟨hf k, Nat.le_trans hn (Nat.le_add_right _ _)⟩
  have hz : IsZip s1.heap (N + 5) (N + 3) (N + 4) .none := hoz _ (get (N + 5, oz) (by simp [zipE]))
  have hTI : IsTupOf3 s1.heap (N + 3) (.ref N) (.ref (N + 1)) (.ref (N + 2)) := get (N + 3, { cls := .type "tuple", data := .seq #[.ref N, .ref (N + 1), .ref (N + 2)] }) (by simp [zipE])
  have hTO : IsTupOf3 s1.heap (N + 4) .none .none .none := get (N + 4, { cls := .type "tuple", data := .seq #[.none, .none, .none] }) (by simp [zipE])
  have g1 := get (N, oK b1 a1) (by simp [zipE])
  have g2 := get (N + 1, oK b2 a2) (by simp [zipE])
  have g3 := get (N + 2, oK b3 a3) (by simp [zipE])
  refine wpAny_pyIter_zip hz ?_
  refine ⟨N + 5, _, _, _, H1, rfl, I2, turnZ3 b1 b2 b3 xs ys zs l1 l2 l3, ⟨hz, hTI, ⟨_, _, _, hTO⟩, iterK0 b1 g1, iterK0 b2 g2, iterK0 b3 g3⟩, fun c hc => ?_, q⟩
  have e' : c = N + 5 ∨ c = N + 3 ∨ c = N + 4 ∨ c = N ∨ c = N + 1 ∨ c = N + 2 := by simpa using hc
  rcases e' with z | z | z | z | z | z
  · rw [z]; exact fp (N + 5, oz) (by simp [zipE])
  · rw [z]; exact fp (N + 3, { cls := .type "tuple", data := .seq #[.ref N, .ref (N + 1), .ref (N + 2)] }) (by simp [zipE])
  · rw [z]; exact fp (N + 4, { cls := .type "tuple", data := .seq #[.none, .none, .none] }) (by simp [zipE])
  · rw [z]; exact fp (N, oK b1 a1) (by simp [zipE])
  · rw [z]; exact fp (N + 1, oK b2 a2) (by simp [zipE])
  · rw [z]; exact fp (N + 2, oK b3 a3) (by simp [zipE])

/-- a slot's value is not looked at any more -/
theorem ER.set_un {G H : Hp} {env : DEnv} {st : List D} {σ : L2.St} {i : Nat} {y : Option V} (er : ER Z.Y Z.fc Z.Nw G env st σ H) : ER Z.Y Z.fc Z.Nw G (env.set i .un) st (σ.set i y) H := by
  refine ⟨er.fz, fun j s hs => ?_, fun j k o u hj hk n => ?_, er.row⟩
  · by_cases e : i = j
    · subst e
      have hi : i < env.length := by
        by_cases z : i < env.length
        · exact z
        · rw [List.getElem?_eq_none (by simpa using z)] at hs; cases hs
      rw [List.getElem?_set_self hi] at hs
      cases hs
      obtain ⟨x, h1, _⟩ := er.sl i _ (List.getElem?_eq_getElem hi)
      have hi2 : i < σ.length := (List.getElem?_eq_some_iff.mp h1).1
      exact ⟨y, by rw [List.getElem?_set_self hi2], True.intro⟩
    · rw [List.getElem?_set_ne e] at hs ⊢
      exact er.sl j s hs
  · have f : ∀ {j : Nat} {o : Own}, (env.set i .un)[j]? = some (.own o) → i ≠ j ∧ env[j]? = some (.own o) := fun {j o} h => by
      by_cases e : i = j
      · subst e
        by_cases hi : i < env.length
        · rw [List.getElem?_set_self hi] at h; cases h
        · rw [List.getElem?_eq_none (by simpa using hi)] at h; cases h
      · exact ⟨e, by rwa [List.getElem?_set_ne e] at h⟩
    obtain ⟨n1, e1⟩ := f hj
    obtain ⟨n2, e2⟩ := f hk
    rw [List.getElem?_set_ne n1, List.getElem?_set_ne n2]
    exact er.dis j k o u e1 e2 n
/-- name = zip(a, b, c); return all([e for t in name]) -/
def zipAllS (i : Nat) (vs : List Nat) (ψ : DEnv → List D → Res (List D)) (γ : D → DEnv → Option DEnv) (c : DEnv → List D → Res Bool) (φ : DEnv → List D → Res D) (env : DEnv) (st : List D) : SR := match env[i]? with
  | none => .bad
  | some _ => ofR (ψ env st) fun ds st1 => match ds.map sqF with
    | [some as, some bs, some cs] => ofR (lcL γ c φ (wipeE (env.set i .un) vs) (zip3L as bs cs) st1 []) fun ys st2 => match oAll st2 (.lst ys) with
      | some u => .rt u (env.set i .un) st2
      | none => .bad
    | _ => .bad
variable {kn : Nat} {elt : Expr} {elts : List Expr} {kk : Nat} {tpos px p4 p3 lp cp rp sp p1 p2 : Pos} {scope : Scope} {own : List (Str × Nat)} {ψ : DEnv → List D → Res (List D)} {γ : D → DEnv → Option DEnv} {c : DEnv → List D → Res Bool} {φ : DEnv → List D → Res D} {ifs : List Expr} {y z : Str}
theorem dss_zipAll {i : Nat} (o : Okc X Z kn) (hi : X.N[i]? = some x) (hx : X.env.scope.names.lookup x = some .local) (hz : z = "zip") (hgz : Gl X z) (hmz : X.mg z = none) (ha : DA X Z [e, e2, e3] ψ) (hs1 : starEach [e, e2, e3] X.env = (false, eval e X.env) :: starEach [e2, e3] X.env) (hpl : (backTo p2 (starEach [e2, e3] X.env)).any (·.1) = false)
    (hsw : swapsWith (.Call (.Name z p1) [e, e2, e3] [] p2) (some (.Name x px)) sp.line X.env = pure false)
    (hd : (x == ("__debug__" : Str)) = false) (hcd : (x == ("__classdict__" : Str)) = false)
    (ok : BlkOk X.N X.env.scope scope own) (hg : ∀ q : Bq, DG (q.cx X scope) Z.quiet (.Tuple elts kk tpos) (own.map (·.2)) γ) (ht : ∀ q : Bq, DTs (q.cx X scope) Z.quiet ifs c) (he : ∀ q : Bq, DE (q.cx X scope) Z.quiet elt φ)
    (hs : ∀ v, foldedSetIterable (.Name x p4) X.env v = pure v) (hy : y = "all") (hga : Gl X y) (hma : X.mg y = none)
    (hs2 : starEach [Expr.ListComp elt [⟨.Tuple elts kk tpos, .Name x p4, ifs, 0⟩] scope lp] X.env = [(false, eval (.ListComp elt [⟨.Tuple elts kk tpos, .Name x p4, ifs, 0⟩] scope lp) X.env)]) :
    DSs X Z [.Assign [.Name x px] (.Call (.Name z p1) [e, e2, e3] [] p2) sp, .Return (some (.Call (.Name y p3) [.ListComp elt [⟨.Tuple elts kk tpos, .Name x p4, ifs, 0⟩] scope lp] [] cp)) rp] (zipAllS i (own.map (·.2)) ψ γ c φ) := by
  subst hz hy
  obtain ⟨ta, pa, ra⟩ := ha
  obtain ⟨g, pg, rg⟩ := uni_g hg
  obtain ⟨tt, pt, rt⟩ := uni_t ht
  obtain ⟨te, pe, re⟩ := uni_e he
  have plc := pe_lc (X := X) (pos := lp) o.calm o.nd (pi_z3 (p := p4) (elts := elts) (kk := kk) (tpos := tpos) hi (.inl hx) hd hcd) ok (fun s H C cl fp => pg ⟨s, H, C, cl, fp⟩) (fun s H C cl fp => pt ⟨s, H, C, cl, fp⟩) (fun s H C cl fp => pe ⟨s, H, C, cl, fp⟩) hs
  have pal := pe_callB (p := p3) (pos := cp) (cr_all o.calm) hga hma boot_all (pa_cons plc pa_nil hs2) (by decide) (by decide) hs2 rfl
  refine ⟨_, pss_cons (ps_set o.nd hi (.inl hx) (pe_zip3 (p := p1) hgz hmz pa hs1 hpl) hsw (.inr hx)) (pss_one (ps_ret pal)), fun G0 H0 σ H G env st E er en po => ?_⟩
  unfold zipAllS at po
  cases hen : env[i]? with
  | none => rw [hen] at po; exact po.elim
  | some sl =>
    rw [hen] at po
    refine ra σ H G env st _ er (SPost.post er en po fun ds st1 vs G1 H1 _ x1 er1 en1 rv po1 => ?_)
    have rv : RpL Z.Y G1 ds vs := rv
    split at po1
    · rename_i as bs cs hds
      obtain ⟨d1, d2, d3, rfl, k1, k2, k3⟩ : ∃ d1 d2 d3, ds = [d1, d2, d3] ∧ sqF d1 = some as ∧ sqF d2 = some bs ∧ sqF d3 = some cs := by
        clear rv
        rcases ds with _ | ⟨d1, _ | ⟨d2, _ | ⟨d3, _ | ⟨d4, ds⟩⟩⟩⟩ <;> simp only [List.map_cons, List.map_nil, List.cons.injEq, and_true, reduceCtorEq, and_false, false_and] at hds
        exact ⟨d1, d2, d3, rfl, hds.1, hds.2.1, hds.2.2⟩
      obtain ⟨v1, r1, rfl, w1, rv⟩ := rv.cons_inv
      obtain ⟨v2, r2, rfl, w2, rv⟩ := rv.cons_inv
      obtain ⟨v3, r3, rfl, w3, rv⟩ := rv.cons_inv
      rw [rv.nil_inv]
      obtain ⟨b1, a1, xs, rfl, q1, l1⟩ := sqF_rp w1 k1
      obtain ⟨b2, a2, ys, rfl, q2, l2⟩ := sqF_rp w2 k2
      obtain ⟨b3, a3, zs, rfl, q3, l3⟩ := sqF_rp w3 k3
      refine ⟨b1, b2, b3, a1, a2, a3, xs, ys, zs, rfl, by rw [← o.K]; exact sqK_mono x1.f q1, by rw [← o.K]; exact sqK_mono x1.f q2, by rw [← o.K]; exact sqK_mono x1.f q3, fun N oz hoz hN hfr n1 n2 n3 => ?_⟩
      have er2 : ER Z.Y Z.fc Z.Nw G1 (env.set i .un) st1 (σ.set i (some (.ref (N + 5 : Nat)))) H1 := ER.set_un er1
      have hi2 : i < σ.length := by
        obtain ⟨x, h1, _⟩ := er.sl i sl hen
        exact (List.getElem?_eq_some_iff.mp h1).1
      show tLc (iZ3 X i) g tt te (own.map (·.2)) (σ.set i (some (.ref (N + 5 : Nat)))) (layH H1 (zipE N b1 b2 b3 a1 a2 a3 oz)) (fun v H2 => rAll X.K [v] H2 E.rt)
      refine lc_read2 (Z := Z) (it := fun _ st => .ok (zip3L as bs cs) st) (γ := γ) (c := c) (φ := φ) rg rt re (G := G1) (H := H1) (env := env.set i .un) (st := st1) (fun R hR => ?_) er2 ?_
      · refine ⟨H1, N, b1, b2, b3, a1, a2, a3, xs, ys, zs, oz, by rw [List.getElem?_set_self hi2], rfl, hoz, hN, hfr, n1, n2, n3, ?_⟩
        rw [← o.K]
        exact Post.here (R := fun G _ ds J => ItD Z.Y G ds J) hR er2.fz er2.row (itD_Z3 q1 q2 q3 l1 l2 l3)
      · show Post _ Z G1 _ H1 (lcL γ c φ (wipeE (env.set i .un) (own.map (·.2))) (zip3L as bs cs) st1 []) _
        refine SPost.post er2 en1 po1 fun ys st2 v G2 H2 _ x2 er3 en3 rv po2 => ?_
        obtain ⟨p, vs2, rfl, _, nm, hp, _, rvs⟩ := rv
        cases ho : oAll st2 (.lst ys) with
        | none => simp only [ho] at po2; exact po2.elim
        | some u =>
          simp only [ho] at po2
          rw [← o.K]
          exact b1_all (Z := Z) (.ref p) (.lst ys) u G2 H2 (σ.set i (some (.ref (N + 5 : Nat)))) st2 _ er3.fz er3.row (.inr (.inl ⟨ys, p, vs2, rfl, rfl, nm, hp, rvs⟩)) ho fun v' G' H' e' row' rv' => po2 v' _ G' H' (er3.ext e' row') (en3.ext e' er3.row.there) rv'
    · exact po1.elim
end
end DL

set_option Elab.async false
set_option linter.all false
set_option maxRecDepth 100000
/-! The layer's data side: how the functions are computed, by simp. -/
namespace DL
open PySem L2
section
variable {α : Type} {φ ψ χ : DEnv → List D → Res D} {c c2 : DEnv → List D → Res Bool} {as bs : DEnv → List D → Res (List D)} {f g : DEnv → List D → SR} {env : DEnv} {st : List D} {d : D} {i j : Nat}
@[simp] theorem bind_ok {β : Type} {a : α} {k : α → List D → Res β} : (Res.ok a st).bind k = k a st := (rfl)
@[simp] theorem bind_exc {β : Type} {cc : Nat} {fs : List D} {k : α → List D → Res β} : (Res.exc cc fs st : Res α).bind k = .exc cc fs st := (rfl)
@[simp] theorem bind_bad {β : Type} {k : α → List D → Res β} : (Res.bad : Res α).bind k = .bad := (rfl)
@[simp] theorem sbind_nx {k : DEnv → List D → SR} : (SR.nx env st).bind k = k env st := (rfl)
@[simp] theorem sbind_rt {k : DEnv → List D → SR} : (SR.rt d env st).bind k = .rt d env st := (rfl)
@[simp] theorem sbind_exc {cc : Nat} {fs : List D} {k : DEnv → List D → SR} : (SR.exc cc fs st).bind k = .exc cc fs st := (rfl)
@[simp] theorem sbind_bad {k : DEnv → List D → SR} : SR.bad.bind k = .bad := (rfl)
@[simp] theorem ofR_ok {a : α} {k : α → List D → SR} : ofR (.ok a st) k = k a st := (rfl)
@[simp] theorem ofR_exc {cc : Nat} {fs : List D} {k : α → List D → SR} : ofR (.exc cc fs st : Res α) k = .exc cc fs st := (rfl)
@[simp] theorem ofR_bad {k : α → List D → SR} : ofR (.bad : Res α) k = .bad := (rfl)
@[simp] theorem val_nx : (SR.nx env st).val = .ok .non st := (rfl)
@[simp] theorem val_rt : (SR.rt d env st).val = .ok d st := (rfl)
@[simp] theorem val_exc {cc : Nat} {fs : List D} : (SR.exc cc fs st).val = .exc cc fs st := (rfl)
@[simp] theorem ofO_some : ofO (some d) st = .ok d st := (rfl)
@[simp] theorem ofO_none : ofO none st = .bad := (rfl)
@[simp] theorem noX_ok {a : α} : noX (.ok a st) = .ok a st := (rfl)
@[simp] theorem seqS_s : seqS f g env st = (f env st).bind g := (rfl)
@[simp] theorem nxS_s : nxS env st = .nx env st := (rfl)
@[simp] theorem retS_s : retS φ env st = ofR (φ env st) fun d st1 => .rt d env st1 := (rfl)
@[simp] theorem setS_s : setS i φ env st = ofR (φ env st) fun d st1 => .nx (env.set i (.val d)) st1 := (rfl)
@[simp] theorem exprS_s : exprS φ env st = ofR (φ env st) fun _ st1 => .nx env st1 := (rfl)
@[simp] theorem ifS_s : ifS c f g env st = ofR (c env st) fun b st1 => match b with
  | true => f env st1
  | false => g env st1 := (rfl)
@[simp] theorem setOwnS_s : setOwnS i as env st = ofR (as env st) fun ds st1 => if ds.length ≤ SZ then .nx (env.set i (.own (.lst ds))) st1 else .bad := (rfl)
@[simp] theorem frzS_s : frzS i f env st = f (frzE i env) st := (rfl)
@[simp] theorem raiseS_s {cc n : Nat} : raiseS cc n as env st = ofR (as env st) fun ds st1 => if ds.length = n then .exc cc ds st1 else .bad := (rfl)
@[simp] theorem nilA_s : nilA env st = .ok [] st := (rfl)
@[simp] theorem consA_s : consA φ as env st = (φ env st).bind fun d st1 => (as env st1).bind fun ds st2 => .ok (d :: ds) st2 := (rfl)
@[simp] theorem lit_s : lit d env st = .ok d st := (rfl)
@[simp] theorem yesT_s : yesT env st = .ok true st := (rfl)
@[simp] theorem mkT_s : mkT as env st = (as env st).bind fun ds st1 => if ds.length ≤ SZ then .ok (.tup ds) st1 else .bad := (rfl)
@[simp] theorem mkL_s : mkL as env st = (as env st).bind fun ds st1 => if ds.length ≤ SZ then .ok (.lst ds) st1 else .bad := (rfl)
@[simp] theorem opE_s {o : D → D → Option D} : opE o φ ψ env st = (φ env st).bind fun d st1 => (ψ env st1).bind fun e st2 => ofO (o d e) st2 := (rfl)
@[simp] theorem opV_s {o : List D → D → D → Option D} : opV o φ ψ env st = (φ env st).bind fun d st1 => (ψ env st1).bind fun e st2 => ofO (o st2 d e) st2 := (rfl)
@[simp] theorem b1E_s {o : List D → D → Option D} : b1E o φ env st = (φ env st).bind fun d st1 => ofO (o st1 d) st1 := (rfl)
@[simp] theorem tst_s : tst φ env st = (φ env st).bind asB := (rfl)
@[simp] theorem asB_bl {b : Bool} : asB (.bl b) st = .ok b st := (rfl)
@[simp] theorem notT_s : notT c env st = (c env st).bind fun b st1 => .ok (!b) st1 := (rfl)
@[simp] theorem andT_s : andT c c2 env st = (c env st).bind fun b st1 => match b with
  | true => c2 env st1
  | false => .ok false st1 := (rfl)
@[simp] theorem orT_s : orT c c2 env st = (c env st).bind fun b st1 => match b with
  | false => c2 env st1
  | true => .ok true st1 := (rfl)
@[simp] theorem iteE_s : iteE c φ ψ env st = (c env st).bind fun b st1 => match b with
  | true => φ env st1
  | false => ψ env st1 := (rfl)
/-- what follows a bool -/
def andK (ψ : DEnv → List D → Res D) (env : DEnv) (d : D) (st1 : List D) : Res D := match d with
  | .bl true => ψ env st1
  | .bl false => .ok (.bl false) st1
  | _ => .bad
@[simp] theorem andE_s : andE φ ψ env st = (φ env st).bind (andK ψ env) := (rfl)
@[simp] theorem andK_t : andK ψ env (.bl true) st = ψ env st := (rfl)
@[simp] theorem andK_f : andK ψ env (.bl false) st = .ok (.bl false) st := (rfl)
@[simp] theorem notE_s : notE φ env st = (φ env st).bind fun d st1 => match d with
  | .bl b => .ok (.bl (!b)) st1
  | _ => .bad := (rfl)
@[simp] theorem negE_s : negE φ env st = (φ env st).bind fun d st1 => match d with
  | .int i => .ok (.int (-i)) st1
  | _ => .bad := (rfl)
@[simp] theorem callE_s {Φ : List D → List D → Res D} : callE Φ as env st = (as env st).bind fun ds st1 => Φ ds st1 := (rfl)
@[simp] theorem makeE_s {cc : Nat} {Φ : List D → List D → Res (List D)} : makeE cc Φ as env st = (as env st).bind fun ds st1 => (Φ ds st1).bind fun fs st2 => .ok (.obj cc fs) st2 := (rfl)
@[simp] theorem isE_s {o : D → Option Bool} : isE o φ env st = (φ env st).bind fun d st1 => match o d with
  | some b => .ok (.bl b) st1
  | none => .bad := (rfl)
@[simp] theorem noP_s : noP env st = .ok none st := (rfl)
@[simp] theorem someP_s : someP φ env st = (φ env st).bind fun d st1 => match d with
  | .int i => .ok (some i) st1
  | _ => .bad := (rfl)
@[simp] theorem slE_s {lo hi : DEnv → List D → Res (Option Int)} : slE φ lo hi env st = (φ env st).bind fun d st1 => (lo env st1).bind fun l st2 => (hi env st2).bind fun u st3 => ofO (oSl d l u) st3 := (rfl)
@[simp] theorem asTup_s : asTup φ env st = (φ env st).bind fun d st1 => match d with
  | .kon ds => .ok (.tup ds) st1
  | d => .ok d st1 := (rfl)
/-- a ? b ? c with iL -/
theorem chain_le {x y z : Int} {st1 st2 st3 : List D} (h1 : φ env st = .ok (.int x) st1) (h2 : ψ env st1 = .ok (.int y) st2) (h3 : χ env st2 = .ok (.int z) st2) : chainE oLe oLe φ ψ χ env st = .ok (.bl (decide (x ≤ y) && decide (y ≤ z))) st2 := by
  unfold chainE
  rw [h1]
  simp only [bind_ok]
  rw [h2]
  simp only [bind_ok, oLe]
  by_cases h : x ≤ y
  · simp [h, h3, oLe]
  · simp [h]
@[simp] theorem forS_s {γ : D → DEnv → Option DEnv} {it : DEnv → List D → Res (List D)} : forS γ it f env st = ofR (it env st) fun ds st1 => forL γ f ds env st1 := (rfl)
@[simp] theorem asgS_s {γ : D → DEnv → Option DEnv} : asgS γ φ env st = ofR (φ env st) fun d st1 => match γ d env with
  | some env1 => .nx env1 st1
  | none => .bad := (rfl)
@[simp] theorem seqI_s : seqI φ env st = (φ env st).bind fun d st1 => match sqF d with
  | some ds => .ok ds st1
  | none => .bad := (rfl)
@[simp] theorem enumI_s : enumI φ env st = (φ env st).bind fun d st1 => match sqF d with
  | some ds => .ok (enumL ds) st1
  | none => .bad := (rfl)
@[simp] theorem lcE_s {vs : List Nat} {γ : D → DEnv → Option DEnv} {it : DEnv → List D → Res (List D)} : lcE vs it γ c φ env st = ((it env st).bind fun ds st1 => lcL γ c φ (wipeE env vs) ds st1 []).bind fun ds st1 => .ok (.lst ds) st1 := (rfl)
@[simp] theorem gnD_s : gnD i d env = some (env.set i (.val d)) := (rfl)
@[simp] theorem gNilD_s : gNilD [] env = some env := (rfl)
@[simp] theorem gConsD_s {γ : D → DEnv → Option DEnv} {δ : List D → DEnv → Option DEnv} {ds : List D} : gConsD γ δ (d :: ds) env = (γ d env).bind (δ ds) := (rfl)
@[simp] theorem gTupD_s {n : Nat} {δ : List D → DEnv → Option DEnv} {ds : List D} : gTupD n δ (.tup ds) env = if ds.length = n then δ ds env else none := (rfl)
@[simp] theorem rdV_s : rdV i env st = match env[i]? with
  | some (.val d) => .ok d st
  | _ => .bad := (rfl)
@[simp] theorem rdO_s : rdO i env st = match env[i]? with
  | some (.val d) => .ok d st
  | some (.own (.lst ds)) => .ok (.lst ds) st
  | some (.own (.dct ks vs)) => .ok (.dct ks vs) st
  | _ => .bad := (rfl)
@[simp] theorem appS_s : appS i φ env st = match env[i]? with
  | some (.own (.lst ds)) => ofR (φ env st) fun d st1 => if ds.length < SZ then .nx (env.set i (.own (.lst (ds ++ [d])))) st1 else .bad
  | _ => .bad := (rfl)
@[simp] theorem extS_s : extS i φ env st = match env[i]? with
  | some (.own (.lst ds)) => ofR (φ env st) fun d st1 => match d with
    | .lst es => if ds.length + es.length ≤ SZ then .nx (env.set i (.own (.lst (ds ++ es)))) st1 else .bad
    | _ => .bad
  | _ => .bad := (rfl)
@[simp] theorem fldE_s {ix : Nat → Option Nat} : fldE ix φ env st = (φ env st).bind fun d st1 => match d with
  | .obj cc fs => (match ix cc with
    | some j => ofO fs[j]? st1
    | none => .bad)
  | _ => .bad := (rfl)
@[simp] theorem methE_s {cc : Nat} {Φ : List D → List D → Res D} : methE cc Φ φ as env st = (φ env st).bind fun d st1 => match d with
  | .obj c' fs => if c' = cc then (as env st1).bind fun ds st2 => Φ (.obj c' fs :: ds) st2 else .bad
  | _ => .bad := (rfl)
@[simp] theorem setRowS_s : setRowS i j φ env st = ofR (φ env st) fun d st1 => match env[i]? with
  | some (.val .row) => if j < st1.length then .nx env (st1.set j d) else .bad
  | _ => .bad := (rfl)
theorem rngI1_int {k : Int} {st1 : List D} (h : φ env st = .ok (.int k) st1) (hk : -1000000 ≤ k ∧ k < 1000000) : rngI1 φ env st = .ok (rngL 0 k.toNat) st1 := by
  unfold rngI1; rw [h]; simp only [bind_ok]; rw [if_pos hk]
theorem rngI2_int {a b : Int} {st1 st2 : List D} (h : φ env st = .ok (.int a) st1) (h2 : ψ env st1 = .ok (.int b) st2) (hk : -1000000 ≤ a ∧ a < 1000000 ∧ -1000000 ≤ b ∧ b < 1000000) : rngI2 φ ψ env st = .ok (rngL a (b - a).toNat) st2 := by
  unfold rngI2; rw [h]; simp only [bind_ok]; rw [h2]; simp only [bind_ok]; rw [if_pos hk]
/-! operators -/
@[simp] theorem oAdd_i {a b : Int} : oAdd (.int a) (.int b) = some (.int (a + b)) := (rfl)
@[simp] theorem oSub_i {a b : Int} : oSub (.int a) (.int b) = some (.int (a - b)) := (rfl)
@[simp] theorem oLt_i {a b : Int} : oLt (.int a) (.int b) = some (.bl (decide (a < b))) := (rfl)
@[simp] theorem oLe_i {a b : Int} : oLe (.int a) (.int b) = some (.bl (decide (a ≤ b))) := (rfl)
@[simp] theorem oGt_i {a b : Int} : oGt (.int a) (.int b) = some (.bl (decide (b < a))) := (rfl)
@[simp] theorem oGe_i {a b : Int} : oGe (.int a) (.int b) = some (.bl (decide (b ≤ a))) := (rfl)
theorem oMul_i {a b : Int} (h : (-(2 ^ 64) < a ∧ a < 2 ^ 64) ∨ (-(2 ^ 64) < b ∧ b < 2 ^ 64)) : oMul (.int a) (.int b) = some (.int (a * b)) := by
  unfold oMul; simp only; rw [if_pos h]
theorem oAdd_t {a b : List D} (h : a.length + b.length ≤ SZ) : oAdd (.tup a) (.tup b) = some (.tup (a ++ b)) := by
  unfold oAdd; simp only; rw [if_pos h]
theorem oAdd_l {a b : List D} (h : a.length + b.length ≤ SZ) : oAdd (.lst a) (.lst b) = some (.lst (a ++ b)) := by
  unfold oAdd; simp only; rw [if_pos h]
theorem oDiv_i {a b : Int} (h : 0 < b ∧ b < 1073741824) : oDiv (.int a) (.int b) = some (.int (a / b)) := by
  unfold oDiv; simp only; rw [if_pos h]
theorem oMod_i {a b : Int} (h : 0 < b) : oMod (.int a) (.int b) = some (.int (a % b)) := by
  unfold oMod; simp only; rw [if_pos h]
@[simp] theorem oEq_i {a b : Int} : oEq (.int a) (.int b) = some (.bl (a == b)) := (rfl)
@[simp] theorem oNe_i {a b : Int} : oNe (.int a) (.int b) = some (.bl (!(a == b))) := (rfl)
@[simp] theorem oEq_b {a b : Bool} : oEq (.bl a) (.bl b) = some (.bl (a == b)) := (rfl)
@[simp] theorem oNe_b {a b : Bool} : oNe (.bl a) (.bl b) = some (.bl (!(a == b))) := (rfl)
@[simp] theorem oIsN_non : oIsN d .non = some (.bl (!isNonD d)) := by cases d <;> rfl
@[simp] theorem oIs_non : oIs d .non = some (.bl (isNonD d)) := by cases d <;> rfl
@[simp] theorem isNon_non : isNonD .non = true := (rfl)
@[simp] theorem isNon_int {a : Int} : isNonD (.int a) = false := (rfl)
@[simp] theorem isNon_tup {a : List D} : isNonD (.tup a) = false := (rfl)
@[simp] theorem isNon_obj {a : List D} : isNonD (.obj i a) = false := (rfl)
@[simp] theorem sqF_tup {ds : List D} : sqF (.tup ds) = some ds := (rfl)
@[simp] theorem sqF_lst {ds : List D} : sqF (.lst ds) = some ds := (rfl)
@[simp] theorem sqF_scr {ds : List D} : sqF (.scr ds) = some ds := (rfl)
@[simp] theorem oIx_tup {ds : List D} {a : Int} : oIx st (.tup ds) (.int a) = atI ds a := (rfl)
@[simp] theorem oIx_lst {ds : List D} {a : Int} : oIx st (.lst ds) (.int a) = atI ds a := (rfl)
@[simp] theorem oIx_scr {ds : List D} {a : Int} : oIx st (.scr ds) (.int a) = atI ds a := (rfl)
@[simp] theorem oIx_row {a : Int} : oIx st .row (.int a) = atI st a := (rfl)
@[simp] theorem oLen_tup {ds : List D} : oLen st (.tup ds) = some (.int (ds.length : Nat)) := (rfl)
@[simp] theorem oLen_lst {ds : List D} : oLen st (.lst ds) = some (.int (ds.length : Nat)) := (rfl)
@[simp] theorem oLen_scr {ds : List D} : oLen st (.scr ds) = some (.int (ds.length : Nat)) := (rfl)
@[simp] theorem oInt_i {a : Int} : oInt st (.int a) = some (.int a) := (rfl)
@[simp] theorem oTup_tup {ds : List D} : oTup st (.tup ds) = some (.tup ds) := (rfl)
@[simp] theorem oTup_lst {ds : List D} : oTup st (.lst ds) = some (.tup ds) := (rfl)
@[simp] theorem oLst_tup {ds : List D} : oLst st (.tup ds) = some (.lst ds) := (rfl)
@[simp] theorem oLst_lst {ds : List D} : oLst st (.lst ds) = some (.lst ds) := (rfl)
@[simp] theorem oSl_tup {ds : List D} {lo hi : Option Int} : oSl (.tup ds) lo hi = some (.tup (cutL ds lo hi)) := (rfl)
@[simp] theorem oMin2_i {a b : Int} : oMin2 (.int a) (.int b) = some (.int (min a b)) := by
  unfold oMin2; simp only
  congr 2
  split <;> omega
@[simp] theorem oMax2_i {a b : Int} : oMax2 (.int a) (.int b) = some (.int (max a b)) := by
  unfold oMax2; simp only
  congr 2
  split <;> omega
end
@[simp] theorem wipe_nil {env : DEnv} : wipeE env [] = env := (rfl)
@[simp] theorem wipe_cons {env : DEnv} {v : Nat} {vs : List Nat} : wipeE env (v :: vs) = (wipeE env vs).set v .un := (rfl)
/-! ### statement by statement -/
section
variable {φ : DEnv → List D → Res D} {c : DEnv → List D → Res Bool} {as : DEnv → List D → Res (List D)} {f g k : DEnv → List D → SR} {env env1 : DEnv} {st st1 : List D} {d : D} {ds : List D} {i : Nat}
theorem seq_nx (h : f env st = .nx env1 st1) : seqS f g env st = g env1 st1 := by rw [seqS_s, h]; rfl
theorem seq_rt (h : f env st = .rt d env1 st1) : seqS f g env st = .rt d env1 st1 := by rw [seqS_s, h]; rfl
theorem seq_exc {cc : Nat} (h : f env st = .exc cc ds st1) : seqS f g env st = .exc cc ds st1 := by rw [seqS_s, h]; rfl
theorem seq_set (h : φ env st = .ok d st1) : seqS (setS i φ) g env st = g (env.set i (.val d)) st1 := by rw [seqS_s, setS_s, h]; rfl
theorem set_ok (h : φ env st = .ok d st1) : setS i φ env st = .nx (env.set i (.val d)) st1 := by rw [setS_s, h]; rfl
theorem seq_own (h : as env st = .ok ds st1) (hl : ds.length ≤ SZ) : seqS (setOwnS i as) g env st = g (env.set i (.own (.lst ds))) st1 := by rw [seqS_s, setOwnS_s, h, ofR_ok, if_pos hl]; rfl
theorem if_t (h : c env st = .ok true st1) : ifS c f k env st = f env st1 := by rw [ifS_s, h]; rfl
theorem if_f (h : c env st = .ok false st1) : ifS c f k env st = k env st1 := by rw [ifS_s, h]; rfl
theorem seq_if_t (h : c env st = .ok true st1) : seqS (ifS c f k) g env st = (f env st1).bind g := by rw [seqS_s, if_t h]
theorem seq_if_f (h : c env st = .ok false st1) : seqS (ifS c f nxS) g env st = g env st1 := by rw [seqS_s, if_f h]; rfl
theorem ret_ok (h : φ env st = .ok d st1) : retS φ env st = .rt d env st1 := by rw [retS_s, h]; rfl
theorem val_ret (h : φ env st = .ok d st1) : (retS φ env st).val = .ok d st1 := by rw [ret_ok h]; rfl
theorem defD_run {n m : Nat} (hl : ds.length = n) (he : ds.map Sl.val ++ List.replicate (m - n) Sl.un = env) : defD n m f ds st = (f env st).val := by
  subst he
  unfold defD
  rw [if_pos hl]
theorem cons_ok {st2 : List D} (h : φ env st = .ok d st1) (h2 : as env st1 = .ok ds st2) : consA φ as env st = .ok (d :: ds) st2 := by
  simp only [consA_s, h, h2, bind_ok]
theorem tst_ok {b : Bool} (h : φ env st = .ok (.bl b) st1) : tst φ env st = .ok b st1 := by rw [tst_s, h]; rfl
theorem not_ok {b : Bool} (h : c env st = .ok b st1) : notT c env st = .ok (!b) st1 := by rw [notT_s, h]; rfl
theorem or_f {c2 : DEnv → List D → Res Bool} (h : c env st = .ok false st1) : orT c c2 env st = c2 env st1 := by rw [orT_s, h]; rfl
theorem or_t {c2 : DEnv → List D → Res Bool} (h : c env st = .ok true st1) : orT c c2 env st = .ok true st1 := by rw [orT_s, h]; rfl
theorem and_t {c2 : DEnv → List D → Res Bool} (h : c env st = .ok true st1) : andT c c2 env st = c2 env st1 := by rw [andT_s, h]; rfl
theorem and_f {c2 : DEnv → List D → Res Bool} (h : c env st = .ok false st1) : andT c c2 env st = .ok false st1 := by rw [andT_s, h]; rfl
theorem ande_t {ψ : DEnv → List D → Res D} (h : φ env st = .ok (.bl true) st1) : andE φ ψ env st = ψ env st1 := by rw [andE_s, h]; rfl
theorem ande_f {ψ : DEnv → List D → Res D} (h : φ env st = .ok (.bl false) st1) : andE φ ψ env st = .ok (.bl false) st1 := by rw [andE_s, h]; rfl
theorem note_ok {b : Bool} (h : φ env st = .ok (.bl b) st1) : notE φ env st = .ok (.bl (!b)) st1 := by rw [notE_s, h]; rfl
theorem ite_t {ψ χ : DEnv → List D → Res D} (h : c env st = .ok true st1) : iteE c ψ χ env st = ψ env st1 := by rw [iteE_s, h]; rfl
theorem ite_f {ψ χ : DEnv → List D → Res D} (h : c env st = .ok false st1) : iteE c ψ χ env st = χ env st1 := by rw [iteE_s, h]; rfl
theorem op_ok {o : D → D → Option D} {ψ : DEnv → List D → Res D} {e u : D} {st2 : List D} (h : φ env st = .ok d st1) (h2 : ψ env st1 = .ok e st2) (h3 : o d e = some u) : opE o φ ψ env st = .ok u st2 := by
  simp only [opE_s, h, h2, bind_ok, h3, ofO_some]
theorem opv_ok {o : List D → D → D → Option D} {ψ : DEnv → List D → Res D} {e u : D} {st2 : List D} (h : φ env st = .ok d st1) (h2 : ψ env st1 = .ok e st2) (h3 : o st2 d e = some u) : opV o φ ψ env st = .ok u st2 := by
  simp only [opV_s, h, h2, bind_ok, h3, ofO_some]
theorem b1_ok {o : List D → D → Option D} {u : D} (h : φ env st = .ok d st1) (h3 : o st1 d = some u) : b1E o φ env st = .ok u st1 := by
  simp only [b1E_s, h, bind_ok, h3, ofO_some]
theorem mkL_ok (h : as env st = .ok ds st1) (hl : ds.length ≤ SZ) : mkL as env st = .ok (.lst ds) st1 := by
  simp only [mkL_s, h, bind_ok]; rw [if_pos hl]
theorem mkT_ok (h : as env st = .ok ds st1) (hl : ds.length ≤ SZ) : mkT as env st = .ok (.tup ds) st1 := by
  simp only [mkT_s, h, bind_ok]; rw [if_pos hl]
theorem make_exc {Φ : List D → List D → Res (List D)} {cc ec : Nat} {fs st2 : List D} (h : φ env st = .ok d st1) (h2 : Φ [d] st1 = .exc ec fs st2) : makeE cc Φ (consA φ nilA) env st = .exc ec fs st2 := by
  simp only [makeE_s, consA_s, nilA_s, h, bind_ok, h2, bind_exc]
theorem make_ok {Φ : List D → List D → Res (List D)} {cc : Nat} {fs st2 : List D} (h : φ env st = .ok d st1) (h2 : Φ [d] st1 = .ok fs st2) : makeE cc Φ (consA φ nilA) env st = .ok (.obj cc fs) st2 := by
  simp only [makeE_s, consA_s, nilA_s, h, bind_ok, h2]
theorem meth2 {Φ : List D → List D → Res D} {ψ χ : DEnv → List D → Res D} {cc : Nat} {fs st2 st3 : List D} {e u : D} (h : φ env st = .ok (.obj cc fs) st1) (h2 : ψ env st1 = .ok e st2) (h3 : χ env st2 = .ok u st3) : methE cc Φ φ (consA ψ (consA χ nilA)) env st = Φ [.obj cc fs, e, u] st3 := by
  simp only [methE_s, consA_s, nilA_s, h, bind_ok, h2, h3, if_true]
theorem call1 {Φ : List D → List D → Res D} (h : φ env st = .ok d st1) : callE Φ (consA φ nilA) env st = Φ [d] st1 := by
  simp only [callE_s, consA_s, nilA_s, h, bind_ok]
theorem call2 {Φ : List D → List D → Res D} {ψ : DEnv → List D → Res D} {e : D} {st2 : List D} (h : φ env st = .ok d st1) (h2 : ψ env st1 = .ok e st2) : callE Φ (consA φ (consA ψ nilA)) env st = Φ [d, e] st2 := by
  simp only [callE_s, consA_s, nilA_s, h, h2, bind_ok]
theorem call3 {Φ : List D → List D → Res D} {ψ χ : DEnv → List D → Res D} {e u : D} {st2 st3 : List D} (h : φ env st = .ok d st1) (h2 : ψ env st1 = .ok e st2) (h3 : χ env st2 = .ok u st3) : callE Φ (consA φ (consA ψ (consA χ nilA))) env st = Φ [d, e, u] st3 := by
  simp only [callE_s, consA_s, nilA_s, h, h2, h3, bind_ok]
theorem eqown_ok {Φ : List D → List D → Res D} {ψ : DEnv → List D → Res D} {cc : Nat} {fs st2 st3 : List D} {e : D} {b : Bool} (h : φ env st = .ok (.obj cc fs) st1) (h2 : ψ env st1 = .ok e st2) (h3 : okEq cc e = true) (h4 : Φ [.obj cc fs, e] st2 = .ok (.bl b) st3) : eqOwnE cc Φ φ ψ env st = .ok (.bl b) st3 := by
  unfold eqOwnE
  simp only [h, h2, bind_ok]
  rw [if_pos ⟨trivial, h3⟩, h4]
theorem told_exc {tl : List Nat} {ref : Nat → List D → Option D} {cc : Nat} {fs : List D} (h : φ env st = .exc cc fs st1) (hr : ref cc fs = some d) : toldE tl ref φ env st = .ok d st1 := by
  unfold toldE; rw [h]; simp only [hr, ofO_some]
theorem told_ok {tl : List Nat} {ref : Nat → List D → Option D} (h : φ env st = .ok d st1) : toldE tl ref φ env st = .ok (.tup [.str tl, d]) st1 := by
  unfold toldE; rw [h]
theorem seq_asg {γ : D → DEnv → Option DEnv} (h : φ env st = .ok d st1) (h2 : γ d env = some env1) : seqS (asgS γ φ) g env st = g env1 st1 := by
  rw [seqS_s, asgS_s, h]; simp only [ofR_ok, h2, sbind_nx]
theorem for_nx {γ : D → DEnv → Option DEnv} {it : DEnv → List D → Res (List D)} (h : it env st = .ok ds st1) : forS γ it f env st = forL γ f ds env st1 := by rw [forS_s, h]; rfl
end
theorem le_SZ {n : Nat} (h : n ≤ 1000000) : n ≤ SZ := Nat.le_trans h (by decide)
theorem lt_SZ {n : Nat} (h : n < 1000000) : n < SZ := Nat.lt_of_lt_of_le h (by decide)
/-! ### lists of ints -/
def iL (l : List Int) : List D := l.map D.int
theorem iL_map {l : List Int} : l.map D.int = iL l := rfl
@[simp] theorem iL_nil : iL [] = [] := rfl
theorem iL_cons {a : Int} {l : List Int} : iL (a :: l) = D.int a :: iL l := rfl
@[simp] theorem iL_length {l : List Int} : (iL l).length = l.length := List.length_map ..
theorem iL_append {l k : List Int} : iL (l ++ k) = iL l ++ iL k := List.map_append
theorem iL_take {n : Nat} {l : List Int} : (iL l).take n = iL (l.take n) := List.map_take.symm
theorem iL_drop {n : Nat} {l : List Int} : (iL l).drop n = iL (l.drop n) := List.map_drop.symm
theorem iL_get {n : Nat} {l : List Int} : (iL l)[n]? = l[n]?.map D.int := List.getElem?_map ..
@[simp] theorem intsOf_iL : ∀ {l : List Int}, intsOf (iL l) = some l
  | [] => rfl
  | a :: l => by
    show (intsOf (iL l)).map (a :: ·) = _
    rw [intsOf_iL]; rfl
@[simp] theorem oSum_iL {l : List Int} {st : List D} : oSum st (.tup (iL l)) = some (.int l.sum) := by
  unfold oSum sq
  simp only [Option.bind_some, intsOf_iL, Option.map_some]
theorem oMin_iL {l : List Int} {st : List D} : oMin st (.lst (iL l)) = (minI l).map D.int := by
  unfold oMin
  simp only [intsOf_iL, Option.bind_some]
theorem oMax_iL {l : List Int} {st : List D} : oMax st (.lst (iL l)) = (maxI l).map D.int := by
  unfold oMax
  simp only [intsOf_iL, Option.bind_some]
def IsMin (l : List Int) (g : Int) : Prop := g ∈ l ∧ ∀ x ∈ l, g ≤ x
def IsMax (l : List Int) (g : Int) : Prop := g ∈ l ∧ ∀ x ∈ l, x ≤ g
theorem minI_is {l : List Int} (h : l ≠ []) : ∃ g, minI l = some g ∧ IsMin l g := by
  cases l with
  | nil => exact absurd rfl h
  | cons x xs => exact ⟨_, rfl, minI_mem⟩
theorem maxI_is {l : List Int} (h : l ≠ []) : ∃ g, maxI l = some g ∧ IsMax l g := by
  cases l with
  | nil => exact absurd rfl h
  | cons x xs => exact ⟨_, rfl, maxI_mem⟩
theorem IsMin.eq {l : List Int} {g : Int} (h : IsMin l g) : minI l = some g := by
  obtain ⟨k, h1, h2, h3⟩ := minI_is (l := l) fun z => by rw [z] at h; exact absurd h.1 List.not_mem_nil
  have := h3 g h.1
  have := h.2 k h2
  rw [h1, show k = g by omega]
theorem IsMax.eq {l : List Int} {g : Int} (h : IsMax l g) : maxI l = some g := by
  obtain ⟨k, h1, h2, h3⟩ := maxI_is (l := l) fun z => by rw [z] at h; exact absurd h.1 List.not_mem_nil
  have := h3 g h.1
  have := h.2 k h2
  rw [h1, show k = g by omega]
@[simp] theorem blsOf_bls : ∀ {l : List Bool}, blsOf (l.map D.bl) = some l
  | [] => rfl
  | a :: l => by
    show (blsOf (l.map D.bl)).map (a :: ·) = _
    rw [blsOf_bls]; rfl
theorem ix_nat {α : Type} {l : List α} {i : Nat} : atI l (i : Int) = l[i]? := by
  unfold atI ixN
  rw [if_pos (by omega)]
  by_cases h : (i : Int) < l.length
  · rw [if_pos h]; rfl
  · rw [if_neg h]
    exact (List.getElem?_eq_none (by omega)).symm
theorem ix_int {α : Type} {l : List α} {i : Int} (h : 0 ≤ i) : atI l i = l[i.toNat]? := by
  obtain ⟨n, rfl⟩ := Int.eq_ofNat_of_zero_le h
  exact ix_nat
@[simp] theorem atI_0 {α : Type} {x : α} {l : List α} : atI (x :: l) 0 = some x := ix_nat (i := 0)
@[simp] theorem atI_1 {α : Type} {x y : α} {l : List α} : atI (x :: y :: l) 1 = some y := ix_nat (i := 1)
@[simp] theorem atI_2 {α : Type} {x y z : α} {l : List α} : atI (x :: y :: z :: l) 2 = some z := ix_nat (i := 2)
@[simp] theorem atI_3 {α : Type} {x y z u : α} {l : List α} : atI (x :: y :: z :: u :: l) 3 = some u := ix_nat (i := 3)
/-! ### slices -/
theorem cut_nat {α : Type} {xs : List α} {i j : Nat} (h : i ≤ j) (hj : j ≤ xs.length) : cutL xs (some (i : Int)) (some (j : Int)) = (xs.drop i).take (j - i) := by
  unfold cutL
  rw [HT.sIx_nat, HT.sIx_nat, Nat.min_eq_left hj, Nat.min_eq_left (Nat.le_trans h hj)]
theorem cut_lo {α : Type} {xs : List α} {j : Nat} : cutL xs none (some (j : Int)) = xs.take j := by
  unfold cutL
  rw [HT.sIx_nat, HT.sIx_none, List.drop_zero, Nat.sub_zero]
  rw [List.take_eq_take_iff]
  omega
theorem cut_hi {α : Type} {xs : List α} {i : Nat} : cutL xs (some (i : Int)) none = xs.drop i := by
  unfold cutL
  rw [HT.sIx_nat, HT.sIx_none]
  by_cases h : i ≤ xs.length
  · rw [Nat.min_eq_left h, List.take_of_length_le (by rw [List.length_drop]; omega)]
  · rw [Nat.min_eq_right (by omega), List.drop_of_length_le (show xs.length ≤ i by omega)]
    simp
theorem cut_iL {fl : List Int} {i m : Nat} (h : i + m ≤ fl.length) : cutL (iL fl) (some (i : Int)) (some ((i : Int) + (m : Int))) = iL ((fl.drop i).take m) := by
  rw [show (i : Int) + (m : Int) = ((i + m : Nat) : Int) by omega, cut_nat (by omega) (by simpa using h), iL_drop, iL_take]
  congr 2
  omega
/-! ### comprehensions, loops -/
section
variable {α β : Type} {γ : D → DEnv → Option DEnv} {c : DEnv → List D → Res Bool} {φ : DEnv → List D → Res D} {f : DEnv → List D → SR} {st : List D}
theorem lcL_map {env : DEnv} (k : α → D) (p : α → Bool) (g : α → D) : ∀ (xs : List α) (acc : List D), (∀ x ∈ xs, ∃ e1, γ (k x) env = some e1 ∧ c e1 st = .ok (p x) st ∧ (p x = true → φ e1 st = .ok (g x) st)) → acc.length + xs.length ≤ SZ →
    lcL γ c φ env (xs.map k) st acc = .ok (acc ++ (xs.filter p).map g) st
  | [], acc, _, _ => by simp [lcL]
  | x :: xs, acc, h, hl => by
    obtain ⟨e1, h1, h2, h3⟩ := h x List.mem_cons_self
    have ht := fun y hy => h y (List.mem_cons_of_mem x hy)
    rw [List.length_cons] at hl
    rw [List.map_cons, lcL, h1]
    simp only [h2, noX_ok, bind_ok]
    cases hp : p x with
    | true =>
      simp only [h3 hp, noX_ok, bind_ok]
      rw [if_pos (by omega), lcL_map k p g xs (acc ++ [g x]) ht (by rw [List.length_append]; simp; omega), List.filter_cons_of_pos hp]
      simp
    | false =>
      simp only
      rw [lcL_map k p g xs acc ht (by omega), List.filter_cons_of_neg (by simp [hp])]
/-- a comprehension over things, told whole -/
theorem lc_map {env env1 : DEnv} {vs : List Nat} {it : DEnv → List D → Res (List D)} {st0 : List D} (k : α → D) (p : α → Bool) (g : α → D) {xs : List α} (hit : it env st0 = .ok (xs.map k) st) (he : wipeE env vs = env1)
    (h : ∀ x ∈ xs, ∃ e1, γ (k x) env1 = some e1 ∧ c e1 st = .ok (p x) st ∧ (p x = true → φ e1 st = .ok (g x) st)) (hl : xs.length ≤ SZ) :
    lcE vs it γ c φ env st0 = .ok (.lst ((xs.filter p).map g)) st := by
  rw [lcE_s, hit, he]
  simp only [bind_ok]
  rw [lcL_map k p g xs [] h (by simpa using hl)]
  rfl
theorem lc_all {env env1 : DEnv} {vs : List Nat} {it : DEnv → List D → Res (List D)} {st0 : List D} (k : α → D) (g : α → D) {xs : List α} (hit : it env st0 = .ok (xs.map k) st) (he : wipeE env vs = env1)
    (h : ∀ x ∈ xs, ∃ e1, γ (k x) env1 = some e1 ∧ φ e1 st = .ok (g x) st) (hl : xs.length ≤ SZ) :
    lcE vs it γ yesT φ env st0 = .ok (.lst (xs.map g)) st := by
  have := lc_map (c := yesT) k (fun _ => true) g hit he (fun x hx => let ⟨e1, h1, h2⟩ := h x hx; ⟨e1, h1, rfl, fun _ => h2⟩) hl
  rwa [List.filter_eq_self.mpr fun _ _ => rfl] at this
theorem lc_none {env env1 : DEnv} {vs : List Nat} {it : DEnv → List D → Res (List D)} {st0 : List D} (k : α → D) {xs : List α} (hit : it env st0 = .ok (xs.map k) st) (he : wipeE env vs = env1)
    (h : ∀ x ∈ xs, ∃ e1, γ (k x) env1 = some e1 ∧ c e1 st = .ok false st) (hl : xs.length ≤ SZ) :
    lcE vs it γ c φ env st0 = .ok (.lst []) st := by
  have := lc_map (φ := φ) k (fun _ => false) (fun _ => D.non) hit he (fun x hx => let ⟨e1, h1, h2⟩ := h x hx; ⟨e1, h1, h2, fun z => by cases z⟩) hl
  rwa [List.filter_eq_nil_iff.mpr fun _ _ => Bool.false_ne_true] at this
/-- a loop that ends by itself, by what was walked -/
theorem forL_pre (k : α → D) (R : List α → DEnv → Prop) : ∀ (xs pre : List α) (env : DEnv), R pre env → (∀ ys x zs env, pre ++ xs = ys ++ x :: zs → R ys env → ∃ e1 e2, γ (k x) env = some e1 ∧ f e1 st = .nx e2 st ∧ R (ys ++ [x]) e2) →
    ∃ e2, forL γ f (xs.map k) env st = .nx e2 st ∧ R (pre ++ xs) e2
  | [], pre, env, r, _ => ⟨env, rfl, by simpa using r⟩
  | x :: xs, pre, env, r, h => by
    obtain ⟨e1, e2, h1, h2, h3⟩ := h pre x xs env rfl r
    obtain ⟨e3, h4, h5⟩ := forL_pre k R xs (pre ++ [x]) e2 h3 fun ys y zs env e => h ys y zs env (by simpa using e)
    refine ⟨e3, ?_, by simpa using h5⟩
    rw [List.map_cons, forL, h1]
    simp only [h2, sbind_nx, h4]
theorem forL_run (k : α → D) (R : List α → DEnv → Prop) {xs : List α} {env : DEnv} (h0 : R [] env) (h : ∀ ys x zs env, xs = ys ++ x :: zs → R ys env → ∃ e1 e2, γ (k x) env = some e1 ∧ f e1 st = .nx e2 st ∧ R (ys ++ [x]) e2) :
    ∃ e2, forL γ f (xs.map k) env st = .nx e2 st ∧ R xs e2 := forL_pre k R xs [] env h0 h
end
/-! ### repr -/
def CpOk (x : Str) : Prop := ∀ c ∈ x.cps.toList, c < 1114112
theorem cp_app {x y : Str} (h : CpOk x) (g : CpOk y) : CpOk (x ++ y) := by
  intro c hc
  have e : (x ++ y : Str).cps.toList = x.cps.toList ++ y.cps.toList := by
    show (Str.append x y).cps.toList = _
    simp [Str.append]
  rw [e, List.mem_append] at hc
  exact hc.elim (h c) (g c)
theorem char_lt (z : Char) : z.toNat < 1114112 := by
  have := z.valid
  rcases this with h | h
  · have : z.toNat < 0xd800 := h
    omega
  · exact h.2
theorem cp_of (x : String) : CpOk (Str.ofString x) := by
  intro c hc
  rw [Str.ofString_eq_toList] at hc
  simp only [List.mem_map] at hc
  obtain ⟨z, _, rfl⟩ := hc
  exact char_lt z
theorem cp_join {x : Str} (hx : CpOk x) : ∀ ts : List Str, (∀ t ∈ ts, CpOk t) → CpOk (Str.join x ts)
  | [], _ => fun c hc => by simp [Str.join, Str.empty] at hc
  | [t], h => h t List.mem_cons_self
  | t :: u :: ts, h => by
    show CpOk (t ++ x ++ Str.join x (u :: ts))
    exact cp_app (cp_app (h t List.mem_cons_self) hx) (cp_join hx (u :: ts) fun y hy => h y (List.mem_cons_of_mem _ hy))
theorem hex_lt {c z w : Nat} (h : z ∈ List.replicate w 48 ++ (Nat.toDigits 16 c).map Char.toNat) : z < 1114112 := by
  rw [List.mem_append] at h
  rcases h with h | h
  · rw [(List.mem_replicate.mp h).2]; decide
  · obtain ⟨y, _, rfl⟩ := List.mem_map.mp h
    exact char_lt y
theorem reprChar_lt {q c : Nat} (hc : c < 1114112) : ∀ z ∈ Builtin.Str.reprChar q c, z < 1114112 := by
  intro z hz
  unfold Builtin.Str.reprChar at hz
  simp only at hz
  split at hz
  · simp at hz; omega
  split at hz
  · simp at hz; omega
  split at hz
  · simp at hz; omega
  split at hz
  · simp at hz; omega
  split at hz
  · simp at hz; omega
  split at hz
  · rw [List.mem_append] at hz
    rcases hz with hz | hz
    · simp at hz; omega
    · exact hex_lt hz
  split at hz
  · rw [List.mem_append] at hz
    rcases hz with hz | hz
    · simp at hz; omega
    · exact hex_lt hz
  · rw [List.mem_append] at hz
    rcases hz with hz | hz
    · simp at hz; omega
    · exact hex_lt hz
theorem fold_lt {q : Nat} : ∀ (l : List Nat) (acc : Array Nat), (∀ c ∈ l, c < 1114112) → (∀ c ∈ acc.toList, c < 1114112) → ∀ c ∈ (l.foldl (fun out c => out ++ (Builtin.Str.reprChar q c).toArray) acc).toList, c < 1114112
  | [], _, _, h => h
  | c :: l, acc, h1, h2 => by
    rw [List.foldl_cons]
    refine fold_lt l _ (fun z hz => h1 z (List.mem_cons_of_mem _ hz)) fun z hz => ?_
    rw [Array.toList_append, List.mem_append] at hz
    exact hz.elim (h2 z) (reprChar_lt (h1 c List.mem_cons_self) z)
theorem cp_repr {x : Str} (h : CpOk x) : CpOk (reprText x) := by
  have hq : reprQuote x < 1114112 := by
    unfold reprQuote
    split <;> decide
  intro c hc
  unfold reprText at hc
  rw [Array.toList_push, List.mem_append, ← Array.foldl_toList] at hc
  rcases hc with hc | hc
  · exact fold_lt _ _ h (by simp; exact hq) c hc
  · rw [List.mem_singleton.mp hc]; exact hq
theorem cp_list {ts : List Str} (h : ∀ t ∈ ts, CpOk t) : CpOk (listText ts) := by
  rw [listText_eq_join]
  exact cp_app (cp_app (cp_of _) (cp_join (cp_of _) ts h)) (cp_of _)
theorem cp_tuple {ts : List Str} (h : ∀ t ∈ ts, CpOk t) : CpOk (tupleText ts) := by
  unfold tupleText
  refine cp_app (cp_app (cp_of _) (cp_join (cp_of _) ts h)) ?_
  exact cp_of _
theorem cp_shown : ∀ (n : Nat) (d : D), okD n d = true → CpOk (toPy n d).shown := by
  intro n
  induction n with
  | zero =>
    intro d h
    cases d <;> first | (simp [okD] at h; done) | skip
    · exact cp_of _
    · rename_i b; cases b <;> exact cp_of _
    · exact cp_of _
    · rename_i l
      refine cp_repr (x := S l) fun c hc => ?_
      have h : l.all (fun c => decide (c < 1114112)) = true := h
      exact of_decide_eq_true (List.all_eq_true.mp h c (by simpa using hc))
  | succ n ih =>
    have all : ∀ xs : List D, xs.all (okD n) = true → ∀ t ∈ PyData.shownAll (xs.map (toPy n)), CpOk t := by
      intro xs
      induction xs with
      | nil => intro _ t ht; simp [PyData.shownAll] at ht
      | cons x xs ihx =>
        intro h t ht
        rw [List.all_cons, Bool.and_eq_true] at h
        rw [List.map_cons, PyData.shownAll_cons, List.mem_cons] at ht
        rcases ht with rfl | ht
        · exact ih x h.1
        · exact ihx h.2 t ht
    intro d h
    cases d <;> first | (simp [okD] at h; done) | skip
    · exact cp_of _
    · rename_i b; cases b <;> exact cp_of _
    · exact cp_of _
    · rename_i l
      refine cp_repr (x := S l) fun c hc => ?_
      have h : l.all (fun c => decide (c < 1114112)) = true := h
      exact of_decide_eq_true (List.all_eq_true.mp h c (by simpa using hc))
    · rename_i xs
      have h : xs.all (okD n) = true := h
      simp only [toPy, PyData.shown]
      exact cp_tuple (all xs h)
    · rename_i xs
      have h : xs.all (okD n) = true := h
      simp only [toPy, PyData.shown]
      exact cp_list (all xs h)
/-- what can be shown in few signs -/
def shB : Nat → D → Bool
  | _, .non => true
  | _, .bl _ => true
  | _, .int i => decide (i.natAbs < 10 ^ 19)
  | _, .str l => l.all (fun c => decide (c < 1114112))
  | n + 1, .tup xs => xs.all (shB n)
  | n + 1, .lst xs => xs.all (shB n)
  | _, _ => false
def bkD : Nat → D → Nat
  | _, .str l => l.length
  | n + 1, .tup xs => (xs.map fun x => bkD n x + 1).sum
  | n + 1, .lst xs => (xs.map fun x => bkD n x + 1).sum
  | _, _ => 0
theorem int_sh {i : Int} (h : i.natAbs < 10 ^ 19) : (PyData.int i).showable = true ∧ ((PyData.int i).shown).length ≤ 20 := by
  constructor
  · simp only [PyData.showable, decide_eq_true_eq]
    by_cases h0 : i.natAbs = 0
    · rw [h0]; decide +kernel
    · have := (Nat.log2_lt (n := i.natAbs) (k := 1920) h0).mpr (Nat.lt_of_lt_of_le h (by decide +kernel))
      exact this
  · rw [PyData.shown_int]
    show (Str.ofString (toString i)).length ≤ 20
    rw [ofString_length]
    exact int_text_length_le10 (k := 19) (by decide) h
theorem sh_ok : ∀ (n : Nat) (d : D), shB n d = true → okD n d = true ∧ (toPy n d).showable = true ∧ (toPy n d).leavesShort 20 = true ∧ (toPy n d).bulk = bkD n d := by
  intro n
  induction n with
  | zero =>
    intro d h
    cases d <;> first | (simp [shB] at h; done) | skip
    · exact ⟨rfl, by simp [toPy, PyData.showable], by simp [toPy, PyData.leavesShort], by simp [toPy, PyData.bulk, bkD]⟩
    · exact ⟨rfl, by simp [toPy, PyData.showable], by simp [toPy, PyData.leavesShort], by simp [toPy, PyData.bulk, bkD]⟩
    · rename_i i
      have h := int_sh (of_decide_eq_true (show decide (i.natAbs < 10 ^ 19) = true from h))
      exact ⟨rfl, h.1, by simp only [toPy, PyData.leavesShort]; exact decide_eq_true h.2, by simp [toPy, PyData.bulk, bkD]⟩
    · rename_i l
      have h : l.all (fun c => decide (c < 1114112)) = true := h
      refine ⟨h, by simp [toPy, PyData.showable], ?_, by simp [toPy, PyData.bulk, bkD]⟩
      simp only [toPy, PyData.leavesShort, List.all_eq_true, decide_eq_true_eq] at h ⊢
      intro c hc
      have := h c (by simpa using hc)
      omega
  | succ n ih =>
    have all : ∀ xs : List D, xs.all (shB n) = true → xs.all (okD n) = true ∧ PyData.showableAll (xs.map (toPy n)) = true ∧ PyData.leavesShortAll 20 (xs.map (toPy n)) = true ∧ PyData.bulkAll (xs.map (toPy n)) = (xs.map fun x => bkD n x + 1).sum := by
      intro xs
      induction xs with
      | nil => intro _; simp [PyData.showableAll, PyData.leavesShortAll, PyData.bulkAll]
      | cons x xs ihx =>
        intro h
        rw [List.all_cons, Bool.and_eq_true] at h
        obtain ⟨a1, a2, a3, a4⟩ := ih x h.1
        obtain ⟨b1, b2, b3, b4⟩ := ihx h.2
        simp only [List.map_cons, PyData.showableAll, PyData.leavesShortAll, PyData.bulkAll, List.all_cons, List.sum_cons, a1, a2, a3, a4, b1, b2, b3, b4, Bool.and_self, and_self]
    intro d h
    cases d <;> first | (simp [shB] at h; done) | skip
    · exact ⟨rfl, by simp [toPy, PyData.showable], by simp [toPy, PyData.leavesShort], by simp [toPy, PyData.bulk, bkD]⟩
    · exact ⟨rfl, by simp [toPy, PyData.showable], by simp [toPy, PyData.leavesShort], by simp [toPy, PyData.bulk, bkD]⟩
    · rename_i i
      have h := int_sh (of_decide_eq_true (show decide (i.natAbs < 10 ^ 19) = true from h))
      exact ⟨rfl, h.1, by simp only [toPy, PyData.leavesShort]; exact decide_eq_true h.2, by simp [toPy, PyData.bulk, bkD]⟩
    · rename_i l
      have h : l.all (fun c => decide (c < 1114112)) = true := h
      refine ⟨h, by simp [toPy, PyData.showable], ?_, by simp [toPy, PyData.bulk, bkD]⟩
      simp only [toPy, PyData.leavesShort, List.all_eq_true, decide_eq_true_eq] at h ⊢
      intro c hc
      have := h c (by simpa using hc)
      omega
    · rename_i xs
      obtain ⟨a, b, c, e⟩ := all xs h
      exact ⟨a, by simpa [toPy, PyData.showable] using b, by simpa [toPy, PyData.leavesShort] using c, by simpa [toPy, PyData.bulk, bkD] using e⟩
    · rename_i xs
      obtain ⟨a, b, c, e⟩ := all xs h
      exact ⟨a, by simpa [toPy, PyData.showable] using b, by simpa [toPy, PyData.leavesShort] using c, by simpa [toPy, PyData.bulk, bkD] using e⟩
theorem deq_self : ∀ (n : Nat) (d : D), okD n d = true → deq n d d = true := by
  intro n
  induction n with
  | zero => intro d h; cases d <;> simp_all [okD, deq]
  | succ n ih =>
    have all : ∀ xs : List D, xs.all (okD n) = true → allEq (deq n) xs xs = true := by
      intro xs
      induction xs with
      | nil => intro _; rfl
      | cons x xs ihx =>
        intro h
        rw [List.all_cons, Bool.and_eq_true] at h
        simp only [allEq, ih x h.1, ihx h.2, Bool.and_self]
    intro d h
    cases d <;> first | (simp_all [okD, deq]; done) | exact all _ h
theorem repr_lst {ds : List D} {st : List D} (h : shB DP (.lst ds) = true) (hb : bkD DP (.lst ds) ≤ 100000) : oRepr st (.lst ds) = some (.str (reprD (.lst ds))) ∧ okD DP (.str (reprD (.lst ds))) = true := by
  obtain ⟨h1, h2, h3, h4⟩ := sh_ok DP _ h
  constructor
  · unfold oRepr
    simp only
    rw [if_pos]
    have h5 := PyData.shown_le_bulk 20 (by decide) _ h3
    rw [h4] at h5
    simp only [Bool.and_eq_true, decide_eq_true_eq]
    refine ⟨⟨h1, h2⟩, ?_⟩
    have : SZ = 16777216 := rfl
    omega
  · have := cp_shown DP _ h1
    show (reprD (.lst ds)).all (fun c => decide (c < 1114112)) = true
    exact List.all_eq_true.mpr fun c hc => decide_eq_true (this c hc)
theorem same_str {l : List Nat} (h : okD DP (.str l) = true) : oEq (.str l) (.str l) = some (.bl true) := by
  unfold oEq
  rw [h]
  simp only [Bool.and_self, if_true]
  rw [deq_self DP _ h]
end DL

set_option Elab.async false
set_option linter.all false
set_option maxRecDepth 100000
set_option maxHeartbeats 2000000
/-! Own errors as values: made, asked, their fields read. -/
namespace PySem
namespace DErr
open PySem.W PySem.Calls PyProof.Rows PySem.HandSPX
section
variable {prog : Program} {w : World} {A : Around} {E : Value → Shared → Prop} {s : Shared} {K : Frag} {C : Addr} {R : Result → Shared → Prop}
/-- a new error, with or without a dict -/
theorem made_any {fI : Addr} {fs : List Str} {mg mb : Str → Option Value} {us : List Value} (T : Txt prog K C fI fs) (X : K.In s.heap) (G : s.heap.Ns mainGlobals mg) (hsu : mg "super" = none) (B : s.heap.Ns builtinsNs mb) (hb : mb "super" = some (.type "super")) (hlim : s.heap.NoLimit)
    (hroom : A.depth + 1 < recursionLimit) (hus : us.length = fs.length) (hz : fs.length ≤ 800)
    (hq : ∀ h' tk e d t1 mE nl, (∀ b o, s.heap.get? b = some o → h'.get? b = some o) → s.heap.objs.size ≤ e → (∀ dx, d = some dx → s.heap.objs.size ≤ dx) → (fs ≠ [] → d ≠ none) → ExAt h' e C t1 d mE nl → (∀ y, mE y = (fs.zip us).lookup y) → R (.ok (.ret (.ref e))) { s with heap := h', toks := tk }) :
    codeAny (model prog w) A (.call (.ref C) ⟨us, []⟩) R s := by
  obtain ⟨nm, q, N, bs, bm, sn, sub, ab, col, dd, k0, k1, k2, k3, k5, hC, hbm⟩ := T.oex.cls
  obtain ⟨hp, g, dr, tk, os⟩ := s
  have k : ∀ b o, hp.get? b = some o → ((hp.push (kdv_tup us)).push (excO C hp.objs.size)).get? b = some o := fun b o e => Heap.get?_push_of_some _ (Heap.get?_push_of_some _ e)
  have hget : ((hp.push (kdv_tup us)).push (excO C hp.objs.size)).get? (hp.objs.size + 1) = some (excO C hp.objs.size) := by heap_get
  have hnx : K.lookup (hp.objs.size + 1) = none := by
    cases e : K.lookup (hp.objs.size + 1) with
    | none => rfl
    | some o =>
      have z : hp.get? (hp.objs.size + 1) = some o := X _ _ e
      exact absurd (Nat.lt_of_succ_lt (Heap.lt_size z)) (Nat.lt_irrefl _)
  refine call_own F.excBase_ValueError (fun X => refsVE_contains X bm hbm) (X _ _ hC) (looks_findIn X T.iC) (fun self => bind_fn X self T.tI) (by rw [hus, sizeLine_eq]; omega) ?_
  refine init_ok (s := ⟨(hp.push (kdv_tup us)).push (excO C hp.objs.size), g, dr, tk, os⟩) T (X.keeps k) (G.keeps k) hsu (B.keeps k) hb (hlim.keeps k) hget hnx ?_ hus hz fun h' tk' d t1 mE nl k' ex hd hm hd2 => ?_
  · show A.depth + 1 < recursionLimit
    exact hroom
  · have old : ∀ b o, hp.get? b = some o → h'.get? b = some o := fun b o e => k' b o (Nat.ne_of_lt (Nat.lt_succ_of_lt (Heap.lt_size e))) (k b o e)
    refine ⟨rfl, hq h' tk' (hp.objs.size + 1) d t1 mE nl old (Nat.le_succ _) (fun dx e => ?_) hd2 ex hm⟩
    have q := hd dx e
    have q : ((hp.push (kdv_tup us)).push (excO C hp.objs.size)).objs.size ≤ dx := q
    rw [Heap.size_push, Heap.size_push] at q
    exact Nat.le_trans (Nat.le_trans (Nat.le_succ _) (Nat.le_succ _)) q
end
end DErr
end PySem
namespace DL
open PySem PySem.Spec PyProof.Rows L2
section
variable {X : Cx} {Z : Ct} {k : Nat} {a b : Expr} {φ ψ : DEnv → List D → Res D} {pos p p2 apos : Pos} {x y : Str} {e : Expr} {es : List Expr}
/-- what a new error is, as tracked -/
def xdH (H : Hp) (d : Option Addr) (ks : List Str) (vs : List V) : Hp := match d with
  | some dx => upd H dx (.xd (ks.zip vs))
  | none => H
theorem exG_ok {P : Program} {w : World} {H : Hp} {h : Heap} {a : Addr} {cls : Value} {d : Option Addr} {oe : Obj} {us : Array Value} (e : h.get? a = some oe) (z : Zc cls d oe) (q : oe.data = .fields us) (h1 : us[1]? = some .none) (h2 : us[2]? = some .none) (h5 : 4 < us.size) : ObjOk P w H h a (ExG cls d a) :=
  ⟨⟨oe, us, e, z, q, h1, h2, h5⟩, ⟨oe, e⟩, fun _ _ ⟨o, v, q, r⟩ k => ⟨o, v, k o q, r⟩⟩
/-- C(e, ..) as a value -/
def tMkV (X : Cx) (C : Addr) (fs : List Str) (ta : TA) : TE := fun σ H Q => ta σ H fun vs H1 => vs.length = fs.length ∧ ∀ (a : Addr) (d : Option Addr), X.s_0.heap.objs.size ≤ a → (fs ≠ [] → d ≠ none) → (∀ dx, d = some dx → H1 dx = none) → (xdH H1 d fs vs) a = none → Q (.ref a) (upd (xdH H1 d fs vs) a (ExG (.ref C) d a))
theorem mkV_end {pins : List (Addr × Obj)} {σ : L2.St} {H1 : Hp} {s1 : Shared} {C fI : Addr} {fs : List Str} {vs : List V} {us : List Value} {Q : VK} {E : Value → Shared → Prop} (I1 : Inv X pins σ H1 s1) (r1 : Vals vs us) (T : PySem.DErr.Txt X.prog X.K C fI fs) (hz : fs.length ≤ 800) (hr : Room k X.A) (hk : 1 ≤ k) (hsu : X.mg "super" = none) (hl : vs.length = fs.length)
    (q1 : ∀ (a : Addr) (d : Option Addr), X.s_0.heap.objs.size ≤ a → (fs ≠ [] → d ≠ none) → (∀ dx, d = some dx → H1 dx = none) → (xdH H1 d fs vs) a = none → Q (.ref a) (upd (xdH H1 d fs vs) a (ExG (.ref C) d a))) : wpAny (model X.prog X.w) X.A (call (.ref C) us) (EP X pins σ Q) E s1 := by
  have hlim := I1.nolimit
  have G := I1.mod.glob.keeps I1.bk
  obtain ⟨mb, B, hmb⟩ := I1.mod.blt
  have B := B.keeps I1.bk
  have hb : mb "super" = some (.type "super") := (hmb _ (by decide +kernel)).trans (by decide +kernel)
  have hK := I1.kIn
  have hsz := I1.sz
  obtain ⟨hp, g, dr, tk, os⟩ := s1
  refine wpAny_call (PySem.DErr.made_any T hK G hsu B hb hlim (by have := hr.dp; omega) (by rw [← r1.length]; exact hl) hz fun h' tk' e' d t1 mE nl hkp he hd hdn ex hmE => ?_)
  show EP X pins σ Q (.ref e') ⟨h', g, dr, tk', os⟩
  obtain ⟨hoe, hns⟩ := ex
  obtain ⟨G', g1, g2⟩ := restrict h' fun b => decide (b ≠ e')
  have gk : ∀ b, b ≠ e' → G'.get? b = h'.get? b := fun b hb => g1 b (decide_eq_true hb)
  have ge : G'.get? e' = none := g2 e' (by simp)
  have up : ∀ b o, G'.get? b = some o → h'.get? b = some o := fun b o q => by
    by_cases hb : b = e'
    · rw [hb, ge] at q; cases q
    · rw [← gk b hb]; exact q
  have old : ∀ b o, hp.get? b = some o → G'.get? b = some o := fun b o q => (gk b (Nat.ne_of_lt (Nat.lt_of_lt_of_le (Heap.lt_size q) he))).trans (hkp b o q)
  have ne' : H1 e' = none := I1.hok.fresh he
  have J : Inv X pins σ (xdH H1 d fs vs) ⟨G', g, dr, tk', os⟩ ∧ (xdH H1 d fs vs) e' = none := by
    cases d with
    | none => exact ⟨I1.kept (t' := tk') old, ne'⟩
    | some dx =>
      obtain ⟨hns, _, _, dne⟩ := hns
      have ob : ObjOk X.prog X.w (upd H1 dx (.xd (fs.zip vs))) G' dx (.xd (fs.zip vs)) :=
        ⟨_, hns.at (fun o q => (gk dx dne).trans q), fun f => by rw [hmE f]; exact relO_zip r1⟩
      exact ⟨I1.laid (t' := tk') old (hd dx rfl) ob, (upd_ne (Ne.symm dne)).trans ne'⟩
  refine ⟨.ref e', _, Inv.laidN (s := ⟨G', g, dr, tk', os⟩) (t' := tk') J.1 up ge J.2 (exG_ok hoe ⟨rfl, rfl⟩ rfl rfl rfl (show 4 < 6 by decide)), rfl, q1 e' d (Nat.le_trans hsz he) hdn (fun dx z => I1.hok.fresh (hd dx z)) J.2⟩
theorem pe_mkV {C fI : Addr} {fs : List Str} {ta : TA} (T : PySem.DErr.Txt X.prog X.K C fI fs) (hz : fs.length ≤ 800) (hr : Room k X.A) (hk : 1 ≤ k) (hsu : X.mg "super" = none) (hm : X.mg x = some (.ref C)) (hg : Gl X x) (ha : PA X (e :: es) ta) (hdb : (x == ("__debug__" : Str)) = false)
    (he : starEach (e :: es) X.env = (false, eval e X.env) :: starEach es X.env) (hpl : (backTo pos (starEach es X.env)).any (·.1) = false) : PE X (.Call (.Name x p) (e :: es) [] pos) (tMkV X C fs ta) := by
  refine ⟨fun pins s σ H Q I h => ?_⟩
  refine wpAny_Call_Name_kw (ld_glob I hg hm ?_ hdb)
  refine PySem.W.callWith_K (h₀ := X.base) I.ok.mod.kin T.oex.kC (thn (ha.run pos pins s σ H _ I h) fun us s1 hh => ?_) he hpl
  obtain ⟨vs, H1, I1, r1, hl, q1⟩ := hh
  exact ⟨I1.kIn, mkV_end I1 r1 T hz hr hk hsu hl q1⟩
theorem pe_mkV0 {C fI : Addr} {fs : List Str} (T : PySem.DErr.Txt X.prog X.K C fI fs) (hz : fs.length ≤ 800) (hr : Room k X.A) (hk : 1 ≤ k) (hsu : X.mg "super" = none) (hm : X.mg x = some (.ref C)) (hg : Gl X x) (hdb : (x == ("__debug__" : Str)) = false) : PE X (.Call (.Name x p) [] [] pos) (tMkV X C fs tNil) := by
  refine ⟨fun pins s σ H Q I h => ?_⟩
  refine wpAny_Call_Name_kw (ld_glob I hg hm ?_ hdb)
  obtain ⟨hl, q1⟩ := h
  exact PySem.W.callWith_K0 I.kIn T.oex.kC (mkV_end I .nil T hz hr hk hsu hl q1)
/-- what it is by data -/
def mkXE (c n : Nat) (ψ : DEnv → List D → Res (List D)) (env : DEnv) (st : List D) : Res D := (ψ env st).bind fun ds st1 => if ds.length = n then .ok (.exo c ds) st1 else .bad
theorem mkX_read {c n : Nat} {ta : TA} {ψ : DEnv → List D → Res (List D)} (hn : (Z.Y.fl c).length = n) (hxn : ∀ a, X.s_0.heap.objs.size ≤ a → Z.Y.xn a)
    (rd : ∀ σ H G env st Q, ER Z.Y Z.fc Z.Nw G env st σ H → Post (rL Z.Y) Z G σ H (ψ env st) Q → ta σ H Q) :
    ∀ σ H G env st Q, ER Z.Y Z.fc Z.Nw G env st σ H → Post (rV Z.Y) Z G σ H (mkXE c n ψ env st) Q → tMkV X (Z.Y.C c) (Z.Y.fl c) ta σ H Q := fun σ H G env st Q er po => by
  refine rd σ H G env st _ er (Post.bind po fun ds st1 vs G1 H1 _ x1 row rv po1 => ?_)
  have rv : RpL Z.Y G1 ds vs := rv
  by_cases hl : ds.length = n
  · rw [if_pos hl] at po1
    have hlv : vs.length = (Z.Y.fl c).length := by rw [← rv.length, hn]; exact hl
    refine ⟨hlv, fun a d ha hd hdx hna => ?_⟩
    cases d with
    | some dx =>
      have e1 : Ext Z.Y.M G1 H1 (upd G1 dx (.xd ((Z.Y.fl c).zip vs))) (upd H1 dx (.xd ((Z.Y.fl c).zip vs))) := Ext.new x1.f (hdx dx rfl)
      have r1 := row.monoN e1 (hdx dx rfl)
      have e2 : Ext Z.Y.M (upd G1 dx (.xd ((Z.Y.fl c).zip vs))) (upd H1 dx (.xd ((Z.Y.fl c).zip vs))) (upd (upd G1 dx (.xd ((Z.Y.fl c).zip vs))) a (ExG (.ref (Z.Y.C c)) (some dx) a)) (upd (upd H1 dx (.xd ((Z.Y.fl c).zip vs))) a (ExG (.ref (Z.Y.C c)) (some dx) a)) := Ext.new e1.f hna
      refine po1 (.ref a) _ _ (e1.trans e2 r1.there) (r1.monoN e2 hna) ?_
      show Rp Z.Y _ (.exo c ds) (.ref a)
      rw [Rp]
      exact ⟨a, some dx, vs, rfl, hxn a ha, upd_same, e2.g _ _ upd_same, hlv, RpL.mono e2.g (RpL.mono e1.g rv)⟩
    | none =>
      have h0 : Z.Y.fl c = [] := by
        cases q : Z.Y.fl c with
        | nil => rfl
        | cons y ys => exact absurd rfl (hd (by rw [q]; simp))
      have e2 : Ext Z.Y.M G1 H1 (upd G1 a (ExG (.ref (Z.Y.C c)) none a)) (upd H1 a (ExG (.ref (Z.Y.C c)) none a)) := Ext.new x1.f hna
      refine po1 (.ref a) _ _ e2 (row.monoN e2 hna) ?_
      show Rp Z.Y _ (.exo c ds) (.ref a)
      rw [Rp]
      exact ⟨a, none, vs, rfl, hxn a ha, upd_same, h0, hlv, RpL.mono e2.g rv⟩
  · rw [if_neg hl] at po1
    exact po1.elim
theorem de_mkX {c n : Nat} {fI : Addr} {ψ : DEnv → List D → Res (List D)} (o : Okc X Z k) (hk : 1 ≤ k) (hxn : ∀ a, X.s_0.heap.objs.size ≤ a → Z.Y.xn a) (T : PySem.DErr.Txt X.prog X.K (Z.Y.C c) fI (Z.Y.fl c)) (hn : (Z.Y.fl c).length = n) (hz : n ≤ 800) (hsu : X.mg "super" = none) (hm : X.mg x = some (.ref (Z.Y.C c))) (hg : Gl X x) (ha : DA X Z (e :: es) ψ)
    (hdb : (x == ("__debug__" : Str)) = false) (he : starEach (e :: es) X.env = (false, eval e X.env) :: starEach es X.env) (hpl : (backTo pos (starEach es X.env)).any (·.1) = false) : DE X Z (.Call (.Name x p) (e :: es) [] pos) (mkXE c n ψ) := by
  obtain ⟨t, q, rd⟩ := ha
  exact ⟨_, pe_mkV T (by rw [hn]; exact hz) o.room hk hsu hm hg q hdb he hpl, mkX_read hn hxn rd⟩
theorem de_mkX0 {c : Nat} {fI : Addr} (o : Okc X Z k) (hk : 1 ≤ k) (hxn : ∀ a, X.s_0.heap.objs.size ≤ a → Z.Y.xn a) (T : PySem.DErr.Txt X.prog X.K (Z.Y.C c) fI (Z.Y.fl c)) (hn : (Z.Y.fl c).length = 0) (hsu : X.mg "super" = none) (hm : X.mg x = some (.ref (Z.Y.C c))) (hg : Gl X x)
    (hdb : (x == ("__debug__" : Str)) = false) : DE X Z (.Call (.Name x p) [] [] pos) (mkXE c 0 nilA) :=
  ⟨_, pe_mkV0 T (by rw [hn]; decide) o.room hk hsu hm hg hdb, mkX_read hn hxn fun σ H G env st Q er po => Post.here (R := rL Z.Y) (v := []) po er.fz er.row RpL.nil⟩
/-! ### asked, read -/
theorem inst_ofT {pins : List (Addr × Obj)} {σ : L2.St} {H : Hp} {s : Shared} (I : Inv X pins σ H s) {a C : Addr} {d : Option Addr} {ks : List Str} {vs : List V} (ha : H a = some (ExG (.ref C) d a)) (hd : XdR H d ks vs) :
    ∃ oe od, PySem.W.InstAt s.heap a oe C od ∧ (∀ dx, d = some dx → ∃ ob, od = some ob ∧ ∃ mA : Str → Option Value, (∀ n, PySem.W.lookIn n ob = some (mA n)) ∧ ∀ n, RelO ((ks.zip vs).lookup n) (mA n)) := by
  obtain ⟨⟨oe, us, he, hz, hf, _⟩, _⟩ := I.hok a _ ha
  exact ⟨oe, inst_h I he hz ⟨us, hf⟩ hd⟩
def rIsXT (X : Cx) : List V → Hp → VK → Prop := fun xs H Q => ∃ (a C : Addr) (d : Option Addr) (ks : List Str) (vs : List V) (c : V) (cv : Value) (b : Bool), xs = [.ref a, c] ∧ H a = some (ExG (.ref C) d a) ∧ XdR H d ks vs ∧ ExcC X.K C ∧
  (∀ u, RelV c u → u = cv) ∧ PySem.W.kitOne X.K (.ref C) cv = some b ∧ Q (.bl b) H
theorem call_isXT : CallR X (.builtin "isinstance") (rIsXT X) := by
  intro pins s σ H xs us Q I r h
  obtain ⟨a, C, d, ks, vs, c, cv, b, rfl, ha, hd, T, hcv, e, hQ⟩ := h
  cases r with
  | cons rx rr =>
    cases rr with
    | cons rt rr =>
      cases rr
      cases rx
      have ec := hcv _ rt
      subst ec
      obtain ⟨oe, od, J, _⟩ := inst_ofT I ha hd
      have hcl : (PySem.W.clsIn X.K C).isSome = true := by
        obtain ⟨cd, h, _⟩ := PySem.W.any_some T.hd
        rw [h]; rfl
      exact PySem.W.kia_one (PySem.W.kitx_exc (od := od) hcl T.hg T.hk T.hs T.ha T.hn T.ht T.hm) I.kIn J e (fun z => nomatch z) fun tk => ⟨.bl b, H, I.kept (t' := tk) fun _ _ z => z, rfl, hQ⟩
def isXo (f : Nat → Option Bool) (d : D) : Option Bool := match d with
  | .exo c _ => f c
  | _ => none
theorem de_isXo {f : Nat → Option Bool} {cw : V} {cv : Value} (hx : x = "isinstance") (hK : Z.Y.K = X.K) (hg : Gl X x) (hm : X.mg x = none) (hb : PE X b (tC cw)) (hu : ∀ u, RelV cw u → u = cv) (hc : ∀ c r, f c = some r → ExcC X.K (Z.Y.C c) ∧ PySem.W.kitOne X.K (.ref (Z.Y.C c)) cv = some r)
    (ha : DE X Z a φ) (hs : starEach [a, b] X.env = (false, eval a X.env) :: starEach [b] X.env) (hs2 : starEach [b] X.env = [(false, eval b X.env)]) (hpl : (backTo pos (starEach [b] X.env)).any (·.1) = false) :
    DE X Z (.Call (.Name x p) [a, b] [] pos) (isE (isXo f) φ) := by
  subst hx
  obtain ⟨t, q, rd⟩ := ha
  refine ⟨_, pe_callB call_isXT hg hm boot_isinstance (pa_cons q (pa_cons hb pa_nil hs2) hs) (by decide) (by decide) hs hpl, fun σ H G env st Q er po => ?_⟩
  refine rd σ H G env st _ er (Post.bind po fun d st1 v G1 H1 e x row rv po1 => ?_)
  cases hi : isXo f d with
  | none => rw [hi] at po1; exact po1.elim
  | some r =>
    rw [hi] at po1
    cases d with
    | exo c fs =>
      obtain ⟨a0, d, vs, rfl, _, h2, h3, h4, h5⟩ := exo_inv rv
      obtain ⟨T, k⟩ := hc _ r hi
      exact ⟨a0, _, d, _, vs, cw, cv, r, rfl, x.f _ _ h2, XdR.mono x.f h3, T, hu, k, Post.here (R := rV Z.Y) po1 x.f row (rp_bl r)⟩
    | _ => cases hi
def tXfT (X : Cx) (n : Str) (te : TE) : TE := fun σ H Q => te σ H fun x H1 => ∃ (a C dx : Addr) (ks : List Str) (vs : List V) (v : V), x = .ref a ∧ H1 a = some (ExG (.ref C) (some dx) a) ∧ H1 dx = some (.xd (ks.zip vs)) ∧ XfC X.K C ∧ PySem.W.findIn X.K (.ref C) n = some none ∧
  (ks.zip vs).lookup n = some v ∧ Q v H1
theorem pe_xfT {te : TE} {n : Str} (he : PE X a te) (hb : attributeBase a n X.env (eval a X.env) = eval a X.env) : PE X (.Attribute a n pos) (tXfT X n te) := by
  refine ⟨fun pins s σ H Q I h => ?_⟩
  refine attr_of hb (thn (he.run pins s σ H _ I h) fun u s1 hh => ?_)
  obtain ⟨x, H1, I1, rx, a0, C, dx, ks, vs, v, ex, ha, hd, T, hno, l, hQ⟩ := hh
  subst ex
  obtain rfl : u = Value.ref a0 := rx
  obtain ⟨oe, od, J, w⟩ := inst_ofT (d := some dx) I1 ha hd
  obtain ⟨ob, rfl, mA, hl, hr⟩ := w dx rfl
  obtain ⟨u, hu, ru⟩ := RelO.some_of (v := v) (o := mA n) (by rw [← l]; exact hr n)
  exact HandSPX.exc_get I1.kIn J T.ga T.gg T.exC (PySem.W.findObj_own T.hdC hno rfl (by rw [hl, hu])) (handed_of ru) ⟨v, H1, I1.tok _, ru, hQ⟩
def xfoE (ix : Nat → Option Nat) (φ : DEnv → List D → Res D) (env : DEnv) (st : List D) : Res D := (φ env st).bind fun d st1 => match d with
  | .exo c fs => ofO ((ix c).bind fun i => fs[i]?) st1
  | _ => .bad
theorem de_xfo {ix : Nat → Option Nat} {n : Str} (hK : Z.Y.K = X.K) (ha : DE X Z a φ) (hc : ∀ c i, ix c = some i → XfC X.K (Z.Y.C c) ∧ PySem.W.findIn X.K (.ref (Z.Y.C c)) n = some none ∧ (Z.Y.fl c)[i]? = some n ∧ (Z.Y.fl c).Nodup) (hb : attributeBase a n X.env (eval a X.env) = eval a X.env) :
    DE X Z (.Attribute a n pos) (xfoE ix φ) := by
  obtain ⟨t, q, rd⟩ := ha
  refine ⟨_, pe_xfT q hb, fun σ H G env st Q er po => ?_⟩
  refine rd σ H G env st _ er (Post.bind po fun d st1 v G1 H1 e x row rv po1 => ?_)
  cases d with
  | exo c fs =>
    obtain ⟨a0, d, vs, rfl, _, h2, h3, h4, h5⟩ := exo_inv rv
    dsimp only at po1
    cases hi : ix c with
    | none => rw [hi] at po1; exact po1.elim
    | some i =>
      rw [hi, Option.bind_some] at po1
      cases hf : fs[i]? with
      | none => rw [hf] at po1; exact po1.elim
      | some u =>
        rw [hf] at po1
        obtain ⟨T, k1, k2, k3⟩ := hc _ i hi
        obtain ⟨v, hv, rv2⟩ := h5.get hf
        cases d with
        | some dx => exact ⟨a0, _, dx, _, vs, v, rfl, x.f _ _ h2, x.f _ _ h3, T, k1, lookup_zipX k3 k2 hv, Post.here (R := rV Z.Y) po1 x.f row rv2⟩
        | none =>
          have h3 : Z.Y.fl c = [] := h3
          rw [h3] at k2
          cases k2
  | _ => exact po1.elim
end
end DL

set_option Elab.async false
set_option linter.all false
set_option maxRecDepth 100000
set_option maxHeartbeats 2000000
/-! raise one, one an own error held as a value, within try .. except C as e. -/
namespace DL
open PySem PySem.Spec PyProof.Rows L2
section
variable {X : Cx} {pins : List (Addr × Obj)} {σ : L2.St} {H : Hp} {s : Shared}
/-- the context as if nothing had been tracked at a at the entry -/
abbrev noH (X : Cx) (a : Addr) : Cx := { X with H_0 := delH X.H_0 a }
theorem inv_noH {a : Addr} (I : Inv X pins σ H s) (h0 : X.s_0.heap.objs.size ≤ a) : Inv (noH X a) pins σ H s := by
  have no : X.s_0.heap.get? a = none := by
    cases q : X.s_0.heap.get? a with
    | none => rfl
    | some o => exact absurd (Nat.lt_of_lt_of_le (Heap.lt_size q) h0) (Nat.lt_irrefl _)
  have up : ∀ {b : Addr} {o : Obj}, X.s_0.heap.get? b = some o → delH X.H_0 a b = X.H_0 b := fun {b o} e => delH_ne fun z => by rw [z, no] at e; cases e
  have dn : ∀ {b : Addr} {o : HO}, delH X.H_0 a b = some o → X.H_0 b = some o := fun {b o} e => by
    by_cases z : b = a
    · rw [z, delH_same] at e; cases e
    · rwa [delH_ne z] at e
  have k := I.ok
  refine ⟨⟨k.mod, k.kind, k.glob, k.blt, k.above, k.inj, k.has, k.cab, k.hd, k.frames, k.stk, k.exf, fun b o e => ?_, k.bsz, k.noex, k.exfs, k.funs, fun b hb => ?_⟩, I.os, I.bare,
    ⟨fun b o e n => I.base.keep b o e ((up e).symm.trans n), fun b o e n => I.base.slot b o e ((up e).symm.trans n), fun b o e n => I.base.free b o e ((up e).symm.trans n), I.base.there, fun b xs e => I.base.tups b xs (dn e), fun b o u e => I.base.frzs b o u (dn e), fun b ps e => I.base.tbls b ps (dn e)⟩,
    I.loc, I.cell, I.free, I.freeC, I.pin, I.hok, I.len⟩
  · obtain ⟨e1, e2⟩ := k.bs b o e
    exact ⟨e1, (up e1).trans e2⟩
  · show delH X.H_0 a b = none
    by_cases z : b = a
    · rw [z, delH_same]
    · rw [delH_ne z]; exact k.frf b hb
theorem inv_ofNoH {a : Addr} {s' : Shared} {H' : Hp} (I0 : X.Ok) (I : Inv (noH X a) pins σ H' s') (ha : ∀ o, X.H_0 a = some o → (∀ xs, o ≠ .tup xs) ∧ (∀ p u, o ≠ .frz p u) ∧ ∀ ps, o ≠ .tbl ps) (h0 : X.s_0.heap.objs.size ≤ a) : Inv X pins σ H' s' := by
  have no : X.s_0.heap.get? a = none := by
    cases q : X.s_0.heap.get? a with
    | none => rfl
    | some o => exact absurd (Nat.lt_of_lt_of_le (Heap.lt_size q) h0) (Nat.lt_irrefl _)
  have up : ∀ {b : Addr} {o : Obj}, X.s_0.heap.get? b = some o → delH X.H_0 a b = X.H_0 b := fun {b o} e => delH_ne fun z => by rw [z, no] at e; cases e
  have up2 : ∀ {b : Addr} {o : HO}, X.H_0 b = some o → b ≠ a → delH X.H_0 a b = some o := fun e z => (delH_ne z).trans e
  refine ⟨I0, I.os, I.bare, ⟨fun b o e n => I.base.keep b o e ((up e).trans n), fun b o e n => I.base.slot b o e ((up e).trans n), fun b o e n => I.base.free b o e ((up e).trans n), I.base.there, fun b xs e => ?_, fun b o u e => ?_, fun b ps e => ?_⟩, I.loc, I.cell, I.free, I.freeC, I.pin, I.hok, I.len⟩
  · exact I.base.tups b xs (up2 e fun z => (ha _ (z ▸ e)).1 xs rfl)
  · exact I.base.frzs b o u (up2 e fun z => (ha _ (z ▸ e)).2.1 o u rfl)
  · exact I.base.tbls b ps (up2 e fun z => (ha _ (z ▸ e)).2.2 ps rfl)
/-- an error of ours is taken out of the heap that is told of -/
theorem inv_out {a : Addr} {φ : Heap → Prop} (I : Inv X pins σ H s) (ha : H a = some (.ext φ)) (h0 : X.s_0.heap.objs.size ≤ a) (hx : X.ex = []) :
    ∃ G : Heap, (∀ b o, G.get? b = some o → s.heap.get? b = some o) ∧ G.get? a = none ∧ Inv X pins σ (delH H a) { s with heap := G } := by
  obtain ⟨G, g1, g2, J⟩ := (inv_noH I h0).untrack (X := noH X a) ha (fr0_none delH_same) hx
  refine ⟨G, g1, g2, inv_ofNoH I.ok J (fun o e => ⟨fun xs z => ?_, fun p u z => ?_, fun ps z => ?_⟩) h0⟩
  · rw [z] at e
    have q := I.base.tups a xs e
    rw [ha] at q; cases q
  · rw [z] at e
    have q := I.base.frzs a p u e
    rw [ha] at q; cases q
  · rw [z] at e
    obtain ⟨m, q⟩ := I.base.tbls a ps e
    rw [ha] at q; cases q
/-- raise y: y holds the error at a -/
theorem ps_raiseU {W : Addr → WX} {y : Str} {i : Nat} {p1 p2 : Pos} (hc : X.calm = true) (hx : X.ex = []) (tk : ∀ a s', XE X (W a) (.ref a) s' → X.xe (.ref a) s') (hN : X.N[i]? = some y) (hv : Vis X.env.scope y) (hd : (y == ("__debug__" : Str)) = false) (hcd : (y == ("__classdict__" : Str)) = false) :
    PS X (.Raise (some (.Name y p1)) none p2) (fun _ σ H => ∃ (a : Addr) (cls : Value) (d : Option Addr), σ[i]? = some (some (.ref a)) ∧ H a = some (ExG cls d a) ∧ X.s_0.heap.objs.size ≤ a ∧ Raises X cls ∧ W a cls d σ (delH H a)) := by
  refine ⟨fun pins s σ H D I h => ?_⟩
  obtain ⟨a, cls, d, hs, ha, h0, hr, hw⟩ := h
  show wpAny _ _ (do standAt p2; raiseStmt X.env (some (do let v ← eval (.Name y p1) X.env; standAt p2; pure v)) none) _ _ _
  refine wpAny_bind (wpAny_standAt (raise_made (I.ok.hd hc) (wpAny_bind (thn ((pe_var (pos := p1) (i := i) hN hv hd hcd).run pins s σ H (fun v H1 => v = .ref a ∧ H1 = H) I ⟨.ref a, hs, rfl, rfl⟩) fun u s1 hu => wpAny_bind (wpAny_standAt (wpAny_pure ?_))))))
  obtain ⟨v, H1, I1, r1, ev, eH⟩ := hu
  subst ev
  rw [eH] at I1
  obtain rfl : u = Value.ref a := r1
  obtain ⟨⟨oe, us, ho, hz, hdt, h1, _⟩, _⟩ := I1.hok a _ ha
  obtain ⟨G, gs, ga, J⟩ := inv_out I1 ha h0 hx
  obtain ⟨r1, r2⟩ := hr (model X.prog X.w) s1.heap I1.kIn
  exact ⟨a, oe, us, cls, rfl, ho, hz.1, hdt, h1, r1, r2, tk a _ (XE.new J gs ga ho hz hdt h1 delH_same rfl I1.bare hw)⟩
end
section
variable {X : Cx} {x n y : Str} {c : Value} {i j : Nat} {suite : List Stmt} {b₀ : Stmt} {np pos pos' p1 p2 : Pos} {ts : Addr → Value → Option Addr → TS}
/-- the ends of the suite: its name is gone -/
abbrev gone (j : Nat) (D : Ends) : Ends := { nx := fun σ H => D.nx (σ.set j none) H, rt := D.rt, bk := fun σ H => D.bk (σ.set j none) H, ct := fun σ H => D.ct (σ.set j none) H }
theorem ps_tryRaise (hs : X.stack = X.env :: X.outer) (hf : X.env.frame = some X.env.locals) (hcm : X.calm = true) (hx : X.ex = []) (hN : X.N.Nodup) (hi : X.N[j]? = some n) (hln : X.env.kindOf n = some .local) (hg : Gl X x) (hdx : (x == ("__debug__" : Str)) = false) (hm : X.mg x = some c)
    (hy : X.N[i]? = some y) (hv : Vis X.env.scope y) (hd : (y == ("__debug__" : Str)) = false) (hcd : (y == ("__classdict__" : Str)) = false)
    (hsu : ∀ (a : Addr) (oe : Obj) (cls : Value) (d : Option Addr) (pn : List (Addr × Obj)), Zc cls d oe → (∃ vs, oe.data = .fields vs) → PSs (X.suite a ((a, oe) :: pn)) (b₀ :: suite) (ts a cls d)) :
    PS X (.Try [.Raise (some (.Name y p1)) none p2] [.ExceptHandler (some (.Name x np)) (some n) (b₀ :: suite) pos'] [] [] pos)
      (fun D σ H => ∃ (a : Addr) (cls : Value) (d : Option Addr), σ[i]? = some (some (.ref a)) ∧ H a = some (ExG cls d a) ∧ X.s_0.heap.objs.size ≤ a ∧ Raises X cls ∧ PySem.W.exmOne X.K cls c = some true ∧ ts a cls d (gone j D) (σ.set j (some (.ref a))) (delH H a)) := by
  refine ⟨fun pins s σ H D I h => ?_⟩
  have ok := I.ok
  have frm : X.A.frames = some (X.env :: X.outer) := by rw [ok.frames, hs]
  refine wpAny_Try_except ?_
  obtain ⟨a0, cls0, d0, e1, e2, e3, e4, e5, e6⟩ := h
  let W : Addr → WX := fun a cls d σ H => PySem.W.exmOne X.K cls c = some true ∧ ts a cls d (gone j D) (σ.set j (some (.ref a))) H
  let xe : Value → Shared → Prop := fun e s₁ => wpAny (model X.prog X.w) X.A (noteFrame e X.env) (fun _ s₂ => wpAny (model X.prog X.w) X.A (setFlight e none) (fun _ s₃ => wpAny (model X.prog X.w) X.A (handleBy e X.env [.ExceptHandler (some (.Name x np)) (some n) (b₀ :: suite) pos']) (SP X pins D) X.xe s₃) X.xe s₂) X.xe s₁
  have catch_ : ∀ a s', XE (X.tr (X.pn ++ pins) xe) (W a) (.ref a) s' → xe (.ref a) s' := fun a s' xx => by
    obtain ⟨a', B, sI, pins', σ', H', cls, d, ea, J', nb, up, sky, na, os, ag, hb1, hyes⟩ := xx
    cases ea
    have J : Inv X pins σ' H' sI := J'.ofTry ok
    have sky' : Sky B (X.env :: X.outer) a (Zc cls d) X.env.locals s'.heap := by rw [← hs]; exact sky
    show wpAny (model X.prog X.w) X.A (noteFrame (.ref a) X.env) _ _ _
    refine Sky.land Zc.steady frm hf sky' fun h3 fl3 up3 => ?_
    have J3 : Inv X pins σ' H' { s' with heap := h3 } := J.landed nb fl3.1 (up.trans up3) os ag
    obtain ⟨oe3, vs3, he3, hz3, hd3⟩ := fl3.there
    have nfr : a ∉ frs (X.env :: X.outer) := fun hm' => by
      obtain ⟨_, o', e', hnf⟩ := fl3.2.2.1.mem hm'
      rw [he3] at e'; cases e'
      exact hnf _ hd3
    have nL : a ≠ X.env.locals := fun z => nfr (List.mem_filterMap.mpr ⟨X.env, List.mem_cons_self, by rw [hf, z]⟩)
    have nF : a ∉ X.fs := fun hm' => by
      obtain ⟨e, he, q⟩ := List.mem_filterMap.mp hm'
      exact nfr (List.mem_filterMap.mpr ⟨e, List.mem_cons_of_mem _ he, q⟩)
    have S3 := J3.suite he3 hd3 na nL nF
    refine wpAny_handleBy_cons (codeAny_handlers_test ?_) (by intro q; cases q)
    have LT : PySem.W.Looks (model X.prog X.w) h3 (typeOf (.ref a)) cls := fun A Q E s k q => wpAny_typeOf_ref (k _ _ he3) (by rw [hz3.1]; exact q)
    refine ld_glob (X := X.suite a ((a, oe3) :: (X.pn ++ pins))) S3 hg hm ((PySem.W.exm_one (M := model X.prog X.w) J3.kIn LT hb1).here (codeAny_handlers_suite_as ?_)) hdx
    refine HandSPX.lands_againZ fl3 fun h4 fl4 up4 => ?_
    have J4 : Inv X pins σ' H' { s' with heap := h4 } := J.landed nb fl4.1 ((up.trans up3).trans up4) os ag
    obtain ⟨oe4, vs4, he4, hz4, hd4⟩ := fl4.there
    have S4 := J4.suite he4 hd4 na nL nF
    refine store_ok (X := X.suite a ((a, oe4) :: (X.pn ++ pins))) (v := .ref a) S4 hN hi (.inl hln) rfl (fun s5 S5 => ?_) (.inr hln)
    refine wpAny_mono ((hsu a oe4 cls d (X.pn ++ pins) hz4 ⟨_, hd4⟩).run [] s5 _ H' _ S5 hyes) (fun f s6 hsp => ?_) (fun _ _ z => False.elim z)
    have fin : ∀ {σ6 : L2.St} {H6 : Hp} {Q : Shared → Prop}, Inv (X.suite a ((a, oe4) :: (X.pn ++ pins))) [] σ6 H6 s6 → (∀ s7, Inv X pins (σ6.set j none) H6 s7 → Q s7) →
        wpAny (model X.prog X.w) X.A (do bindName X.env n .none; unbindBehindTheSuite X.env n pos') (fun _ s7 => Q s7) X.xe s6 := fun {σ6 H6 Q} S6 hq => gone_ok (S6.unsuite ok) hN hi hln hq
    cases f with
    | next => obtain ⟨σ6, H6, S6, q6⟩ := hsp; exact fin S6 fun s7 J7 => ⟨_, _, J7, q6⟩
    | brk => obtain ⟨σ6, H6, S6, q6⟩ := hsp; exact fin S6 fun s7 J7 => ⟨_, _, J7, q6⟩
    | cont => obtain ⟨σ6, H6, S6, q6⟩ := hsp; exact fin S6 fun s7 J7 => ⟨_, _, J7, q6⟩
    | ret u => obtain ⟨v6, σ6, H6, S6, r6, q6⟩ := hsp; exact fin S6 fun s7 J7 => ⟨_, _, _, J7, r6, q6⟩
  have body := pss_one (ps_raiseU (X := X.tr (X.pn ++ pins) xe) (W := W) (i := i) (y := y) (p1 := p1) (p2 := p2) hcm hx catch_ hy hv hd hcd)
  refine wpAny_mono (body.run [] s σ H D (I.toTry _) ⟨a0, cls0, d0, e1, e2, e3, e4, e5, e6⟩) (fun f s1 hsp => ?_) (fun e s1 he => he)
  cases f with
  | next => obtain ⟨σ', H', J', q⟩ := hsp; exact wpAny_execs_nil ⟨σ', H', J'.ofTry ok, q⟩
  | brk => obtain ⟨σ', H', J', q⟩ := hsp; exact ⟨σ', H', J'.ofTry ok, q⟩
  | cont => obtain ⟨σ', H', J', q⟩ := hsp; exact ⟨σ', H', J'.ofTry ok, q⟩
  | ret u => obtain ⟨v, σ', H', J', r, q⟩ := hsp; exact ⟨v, σ', H', J'.ofTry ok, r, q⟩
end
end DL

set_option Elab.async false
set_option linter.all false
set_option maxRecDepth 100000
set_option maxHeartbeats 2000000
/-! Calls in an except suite: a def that is told plain things and raises nothing. -/
namespace DL
open PySem PySem.Spec PyProof.Rows L2
structure HotF (P : Program) (w : World) (K : PySem.W.Frag) (mg : Str → Option Value) (base : Heap) (k : Nat) (f : Addr) (Y : Lay) (Φ : List D → List D → Res D) : Prop where
  xa : Y.xa = none
  ex : ∃ (fd : FuncData) (ps : List Str), PySem.W.keepIn K (.ref f) = true ∧ Binds K fd ps [] ∧ (∀ ds st, ds.length ≠ ps.length → Φ ds st = .bad) ∧ ∀ (A : Around) (outer : List Env) (s : Shared) (H G : Hp) (args : Args) (Q : VK) (p : Addr × Obj) (ρ : Addr) (st ds : List D) (vs : List V) (us : List Value), L2H.RoomH k A → A.guards = some [] → L2H.PinOk outer H s p →
    Env0 P w K mg base A outer s H → Vals vs us → ds.length = ps.length → BindsTo s fd args (ps.zip us) → RpL { Y with ρ := ρ } G ds vs → Le G H → RowR { Y with ρ := ρ } G st H → CPost { Y with ρ := ρ } G H (Φ ds st) Q (fun _ _ _ => False) →
    codeAny (model P w) A (.call (.ref f) args) (CR C8.CX0 outer P w H s Q C8.E0) s
abbrev zOfN (Y : Lay) (ρ : Addr) (H : Hp) : Ct := { Y := { Y with ρ := ρ }, W := fun _ _ _ _ => False, fc := 0, Nw := fun a => H a = none }
structure OkN (X : Cx) (Z : Ct) : Prop where
  K : Z.Y.K = X.K
  un : X.A.units + 200 < cLine
  gd : X.A.guards = some []
  nd : X.N.Nodup
section
variable {P : Program} {w : World} {K : PySem.W.Frag} {mg : Str → Option Value} {base : Heap} {qual : Str} {params : Arguments} {body : List Stmt} {scope : Scope} {f : Addr} {fd : FuncData}
theorem hot_of {Y : Lay} {x : Str} {kws : List (Str × V)} {N ps : List Str} {k : Nat} {φ : DEnv → List D → SR} (hK : Y.K = K) (hx : Y.xa = none) (F : FunD K x qual params body scope [] kws f fd) (S : FnScope N ps scope) (hb : Binds K fd ps []) (hN : ps.length ≤ N.length)
    (h : ∀ (ρ : Addr) (cdv : Value) (A : Around) (outer : List Env) (s : Shared) (H : Hp) (p : Addr × Obj), OkN (L2H.cxH C8.CX0 P w K mg base N qual scope f cdv A outer s H C8.E0 p) (zOfN Y ρ H) → DSs (L2H.cxH C8.CX0 P w K mg base N qual scope f cdv A outer s H C8.E0 p) (zOfN Y ρ H) body φ) :
    HotF P w K mg base (k + 1) f Y (defD ps.length N.length φ) := by
  obtain ⟨oc, od, dV, kV, doc, pm, an, cdv, ct, osl, rfl, lk, hcd, _, _⟩ := F.ex
  refine ⟨hx, _, ps, F.kp, hb, fun ds st hl => by rw [defD, if_neg hl], fun A outer s H G args Q p ρ st ds vs us hr hgd hpin e0 rv hl hbind rds fz row po => ?_⟩
  have KX : K.In s.heap := e0.mod.kin.keeps fun b o e => (e0.bs b o e).1
  have lim : s.heap.NoLimit := e0.mod.nolimit.keeps fun b o e => (e0.bs b o e).1
  have hkind : ∀ y ∈ ps.zip us, scope.names.lookup y.1 = some .local ∨ (scope.names.lookup y.1 = some .cell ∧ ((cellsFrom (s.heap.objs.size + 1) scope.names []).lookup y.1).isSome = true) := fun ⟨n, v⟩ hy => by
    rcases S.par n (List.of_mem_zip hy).1 with q | q
    · exact .inl q
    · exact .inr ⟨q, PySem.W.cellsFrom_some _ _ _ (.inl q)⟩
  refine codeAny_call_function hr.depth (KX _ _ lk) rfl S.co S.gen rfl (PySem.W.codeRec_of KX hcd) (hbind _ _ _ _ ?_)
  refine wpAny_newFunctionEnv_cells S.kind hkind fun env he s1 x => ?_
  subst he
  refine ⟨lim.keeps x.toInCall.keep, codeAny_func ?_⟩
  have hr2 := hr.deeper (envOfC qual scope s.heap.objs.size f cdv)
  have ok : OkN (L2H.cxH C8.CX0 P w K mg base N qual scope f cdv A outer s H C8.E0 p) (zOfN Y ρ H) := ⟨hK, by have := hr2.un; show (A.deeper _).units + 200 < _; omega, by show (A.deeper _).guards = some []; simpa [Around.deeper] using hgd, S.nd⟩
  obtain ⟨t, ht, rd⟩ := h ρ cdv A outer s H p ok
  have er := start_er (Y := { Y with ρ := ρ }) (fc := 0) (Nw := fun a => H a = none) (N := N) fz row rds hl hN
  have hvl : vs.length = ps.length := by rw [← rds.length]; exact hl
  have I : Inv (L2H.cxH C8.CX0 P w K mg base N qual scope f cdv A outer s H C8.E0 p) [] (L2.start N vs) H s1 := L2H.inv_startH (us := us) S hpin e0 hvl rv x
  rw [defD, if_pos hl] at po
  have hq : t { nx := fun _ H' => Q .non H', rt := Q } (L2.start N vs) H := by
    refine rd G H _ H G _ st _ er En.start ?_
    show SPost (zOfN Y ρ H) G H (φ (ds.map Sl.val ++ List.replicate (N.length - ps.length) Sl.un) st) { nx := fun _ H' => Q .non H', rt := Q }
    generalize hq : φ (ds.map Sl.val ++ List.replicate (N.length - ps.length) Sl.un) st = q at po ⊢
    cases q with
    | nx env1 st1 => exact fun σ1 G1 H1 er en => po .non G1 H1 (en.out er.fz) er.row rp_non
    | rt d env1 st1 => exact fun v σ1 G1 H1 er en rv => po v G1 H1 (en.out er.fz) er.row rv
    | exc c fs st1 => exact fun cls dx σ1 G1 H1 f1 row1 en ex => po cls dx G1 H1 (en.out f1) row1 ex
    | bad => exact po
  refine wpAny_mono (ht.run [] s1 (L2.start N vs) H _ I hq) (fun fl s' hs => ?_) fun e s' hs => hs
  have fin : ∀ {σ' : L2.St} {H' : Hp} {v : V} {u : Value}, Inv (L2H.cxH C8.CX0 P w K mg base N qual scope f cdv A outer s H C8.E0 p) [] σ' H' s' → L2.RelV v u → Q v H' → CE outer P w H s Q u s' :=
    fun {σ' H' v u} J rv q => ⟨v, H', J.os, J.bare, J.base, J.hok, rv, q⟩
  cases fl with
  | ret u => obtain ⟨v, σ', H', J, rv, q⟩ := hs; exact fin J rv q
  | next => obtain ⟨σ', H', J, q⟩ := hs; exact fin (v := V.non) (u := Value.none) J rfl q
  | brk => obtain ⟨_, _, _, q⟩ := hs; exact False.elim q
  | cont => obtain ⟨_, _, _, q⟩ := hs; exact False.elim q
end
/-- the context of a suite -/
abbrev zSu (Y : Lay) (ρ a : Addr) (d : Option Addr) (c : Nat) : Ct := { Y := { Y with ρ := ρ, xa := some (a, d, c) }, W := fun _ _ _ _ => False, fc := 0, Nw := fun _ => True }
def refE (i : Nat) (ref : Nat → List D → Option D) (env : DEnv) (st : List D) : Res D := match env[i]? with
  | some (.val (.exn c fs)) => if (plnL fs && plnL st) = true then ofO (ref c fs) st else .bad
  | _ => .bad
def hotE (Φ : List D → List D → Res D) (ψ : DEnv → List D → Res (List D)) (env : DEnv) (st : List D) : Res D := (ψ env st).bind fun ds st1 => if (plnL ds && plnL st1) = true then (match Φ ds st1 with
  | .ok d st2 => if (plnD d && plnL st2) = true then .ok d st2 else .bad
  | _ => .bad) else .bad
section
variable {Xt : Cx} {a : Addr} {oe : Obj} {pn : List (Addr × Obj)} {n r : Str} {i k c : Nat} {rf ρ : Addr} {Y : Lay} {d : Option Addr} {p5 p6 p7 : Pos} {e : Expr} {es : List Expr}
theorem de_hotRef {ref : Nat → List D → Option D} (R : RefC Xt.prog Xt.w Xt.K Xt.mg Xt.base k rf Y ref) (hr : Room k Xt.A) (hgd : Xt.A.guards = some []) (hz : Zc (.ref (Y.C c)) d oe) (hf : ∃ vs, oe.data = .fields vs)
    (hg : Gl Xt r) (hm : Xt.mg r = some (.ref rf)) (hdr : (r == ("__debug__" : Str)) = false) (hi : Xt.N[i]? = some n) (hv : Vis Xt.env.scope n) (hdn : (n == ("__debug__" : Str)) = false) (hcn : (n == ("__classdict__" : Str)) = false) :
    DE (Xt.suite a ((a, oe) :: pn)) (zSu Y ρ a d c) (.Call (.Name r p5) [.Name n p6] [] p7) (refE i ref) := by
  refine ⟨_, pe_ref (Y := Y) R hr hgd hz hf hg hm hdr hi hv hdn hcn, fun σ H G env st Q er po => ?_⟩
  unfold refE at po
  cases he : env[i]? with
  | none => rw [he] at po; exact po.elim
  | some sl =>
    rw [he] at po
    cases sl with
    | val u =>
      cases u with
      | exn c' fs =>
        dsimp only at po
        by_cases hp : (plnL fs && plnL st) = true
        · rw [if_pos hp] at po
          rw [Bool.and_eq_true] at hp
          cases hu : ref c' fs with
          | none => rw [hu] at po; exact po.elim
          | some u =>
            rw [hu] at po
            obtain ⟨x', h1, v, h2, h3⟩ := er.sl i _ he
            obtain ⟨a', dx, vs, rfl, e1, e2, e3, e4⟩ := exn_inv h3
            cases e1
            refine ⟨h1.trans (congrArg some h2), _, ρ, G, st, fs, vs, u, rfl, e2, e3, rpl_unX (Y := { Y with ρ := ρ }) hp.1 e4, er.fz, row_unX (Y := { Y with ρ := ρ }) hp.2 er.row, hu, fun v G' H' ext row rv => ?_⟩
            exact po v G' H' ext (row_toX (Y := { Y with ρ := ρ }) R.xa row).2 (rp_toX (Y := { Y with ρ := ρ }) R.xa rv).2
        · rw [if_neg hp] at po
          exact po.elim
      | _ => exact po.elim
    | _ => exact po.elim
theorem de_hotCall {Φ : List D → List D → Res D} {ψ : DEnv → List D → Res (List D)} (F : HotF Xt.prog Xt.w Xt.K Xt.mg Xt.base k rf Y Φ) (hr : Room k Xt.A) (hgd : Xt.A.guards = some []) (hg : Gl Xt r) (hm : Xt.mg r = some (.ref rf)) (hdr : (r == ("__debug__" : Str)) = false)
    (ha : DA (Xt.suite a ((a, oe) :: pn)) (zSu Y ρ a d c) (e :: es) ψ) (he : starEach (e :: es) (Xt.suite a ((a, oe) :: pn)).env = (false, eval e (Xt.suite a ((a, oe) :: pn)).env) :: starEach es (Xt.suite a ((a, oe) :: pn)).env) (hpl : (backTo p7 (starEach es (Xt.suite a ((a, oe) :: pn)).env)).any (·.1) = false) :
    DE (Xt.suite a ((a, oe) :: pn)) (zSu Y ρ a d c) (.Call (.Name r p5) (e :: es) [] p7) (hotE Φ ψ) := by
  obtain ⟨t, q, rd⟩ := ha
  obtain ⟨fd, ps, hk, hb, hln, F1⟩ := F.ex
  let tt : TE := fun σ H Q => t σ H fun vs H1 => ∃ (G : Hp) (st ds : List D), RpL { Y with ρ := ρ } G ds vs ∧ Le G H1 ∧ RowR { Y with ρ := ρ } G st H1 ∧ CPost { Y with ρ := ρ } G H1 (Φ ds st) Q (fun _ _ _ => False)
  refine ⟨tt, ⟨fun pins s σ H Q I h => ?_⟩, fun σ H G env st Q er po => ?_⟩
  · refine wpAny_Call_Name_kw (ld_glob (X := Xt.suite a ((a, oe) :: pn)) I hg hm ?_ hdr)
    refine PySem.W.callWith_K (h₀ := Xt.base) I.ok.mod.kin hk (thn (q.run p7 pins s σ H _ I h) fun us s1 hh => ?_) he hpl
    obtain ⟨vs, H1, I1, r1, G, st, ds, h1, h2, h3, h4⟩ := hh
    refine ⟨I1.kIn, ?_⟩
    have hl : ds.length = ps.length := Classical.byContradiction fun z => by
      rw [hln ds st z] at h4
      exact h4
    have hul : us.length = ps.length := by rw [← r1.length, ← h1.length]; exact hl
    have b := hb s1 us I1.kIn (by simpa using hul)
    rw [List.append_nil] at b
    have P1 := I1.pin (a, oe) (List.mem_append_left _ List.mem_cons_self)
    have hpin : L2H.PinOk Xt.stack H1 s1 (a, oe) := ⟨P1.1, P1.2.1, fun hm => (List.mem_cons.mp (I1.stkSub a hm)).elim P1.2.2.1 P1.2.2.2.1, P1.2.2.2.2⟩
    have hrH : L2H.RoomH k (Xt.suite a ((a, oe) :: pn)).A := ⟨hr.dp, hr.un⟩
    refine wpAny_call (codeAny_mono (F1 (Xt.suite a ((a, oe) :: pn)).A Xt.stack s1 H1 G ⟨us, []⟩ Q (a, oe) ρ st ds vs us hrH hgd hpin I1.env0 r1 hl b h1 h2 h3 h4) fun r s' hq => ?_)
    cases r with
    | error e => exact False.elim hq
    | ok fl =>
      cases fl with
      | ret u => exact I1.after hq
      | next => exact False.elim hq
      | brk => exact False.elim hq
      | cont => exact False.elim hq
  · refine rd σ H G env st _ er (Post.bind po fun ds st1 vs G1 H1 _ x1 row rv po1 => ?_)
    have rv : RpL (zSu Y ρ a d c).Y G1 ds vs := rv
    by_cases hp : (plnL ds && plnL st1) = true
    · rw [if_pos hp] at po1
      rw [Bool.and_eq_true] at hp
      refine ⟨G1, st1, ds, rpl_unX (Y := { Y with ρ := ρ }) hp.1 rv, x1.f, row_unX (Y := { Y with ρ := ρ }) hp.2 row, ?_⟩
      cases hΦ : Φ ds st1 with
      | ok u st2 =>
        rw [hΦ] at po1
        dsimp only at po1
        by_cases hp2 : (plnD u && plnL st2) = true
        · rw [if_pos hp2] at po1
          exact fun v G' H' ext row rv => po1 v G' H' ext (row_toX (Y := { Y with ρ := ρ }) F.xa row).2 (rp_toX (Y := { Y with ρ := ρ }) F.xa rv).2
        · rw [if_neg hp2] at po1
          exact po1.elim
      | exc c fs st2 => rw [hΦ] at po1; exact po1.elim
      | bad => rw [hΦ] at po1; exact po1.elim
    · rw [if_neg hp] at po1
      exact po1.elim
end
end DL

set_option Elab.async false
set_option linter.all false
set_option maxRecDepth 100000
set_option maxHeartbeats 2000000
/-! A law that raises errors of its own, one by one. -/
namespace DL
open PySem PySem.Spec PyProof.Rows L2
/-! ### values without errors -/
mutual
def nxoD : D → Bool
  | .non => true
  | .bl _ => true
  | .int _ => true
  | .str _ => true
  | .tup ds => nxoL ds
  | .lst ds => nxoL ds
  | .scr ds => nxoL ds
  | .kon ds => nxoL ds
  | .dct _ _ => false
  | .obj _ fs => nxoL fs
  | .fn _ => true
  | .row => true
  | .exn _ _ => false
  | .exo _ _ => false
def nxoL : List D → Bool
  | [] => true
  | d :: ds => nxoD d && nxoL ds
end
def notX (o : HO) : Prop := ∀ φ, o ≠ .ext φ
section
variable {Y : Lay} {G G' : Hp}
theorem sqT_less {K : PySem.W.Frag} {a : Addr} {xs : List V} (e : ∀ b o, G b = some o → notX o → G' b = some o) (h : SqT K G a xs) : SqT K G' a xs := by
  rcases h with (h | ⟨o, h⟩) | h
  · exact .inl (.inl (e _ _ h fun _ z => by cases z))
  · exact .inl (.inr ⟨o, e _ _ h fun _ z => by cases z⟩)
  · exact .inr h
theorem sqL_less {K : PySem.W.Frag} {a : Addr} {xs : List V} (e : ∀ b o, G b = some o → notX o → G' b = some o) (h : SqL K G a xs) : SqL K G' a xs := by
  rcases h with (h | ⟨o, h⟩) | h
  · exact .inl (.inl (e _ _ h fun _ z => by cases z))
  · exact .inl (.inr ⟨o, e _ _ h fun _ z => by cases z⟩)
  · exact .inr h
mutual
theorem rp_less (e : ∀ b o, G b = some o → notX o → G' b = some o) : ∀ {d : D} {v : V}, nxoD d = true → Rp Y G d v → Rp Y G' d v
  | .non, v, _, h => by rw [Rp] at h ⊢; exact h
  | .bl b, v, _, h => by rw [Rp] at h ⊢; exact h
  | .int i, v, _, h => by rw [Rp] at h ⊢; exact h
  | .str l, v, _, h => by rw [Rp] at h ⊢; exact h
  | .tup ds, v, n, h => by
    rw [Rp] at h ⊢
    rw [nxoD] at n
    obtain ⟨a, vs, h1, h2, h3⟩ := h
    exact ⟨a, vs, h1, sqT_less e h2, rpl_less e n h3⟩
  | .lst ds, v, n, h => by
    rw [Rp] at h ⊢
    rw [nxoD] at n
    obtain ⟨a, vs, h1, h2, h3⟩ := h
    exact ⟨a, vs, h1, e _ _ h2 (fun _ z => by cases z), rpl_less e n h3⟩
  | .scr ds, v, n, h => by
    rw [Rp] at h ⊢
    rw [nxoD] at n
    obtain ⟨a, vs, h1, h2, h3⟩ := h
    exact ⟨a, vs, h1, sqL_less e h2, rpl_less e n h3⟩
  | .kon ds, v, n, h => by
    rw [Rp] at h ⊢
    rw [nxoD] at n
    obtain ⟨a, vs, h1, h2, h0, h3⟩ := h
    exact ⟨a, vs, h1, sqT_less e h2, h0, rpl_less e n h3⟩
  | .dct _ _, v, n, h => by cases n
  | .obj c fs, v, n, h => by
    rw [Rp] at h ⊢
    rw [nxoD] at n
    obtain ⟨a, dx, vs, h1, h2, h3, h4⟩ := h
    exact ⟨a, dx, vs, h1, e _ _ h2 (fun _ z => by cases z), h3, rpl_less e n h4⟩
  | .fn f, v, _, h => by rw [Rp] at h ⊢; exact h
  | .row, v, _, h => by rw [Rp] at h ⊢; exact h
  | .exn _ _, v, n, h => by cases n
  | .exo _ _, v, n, h => by cases n
theorem rpl_less (e : ∀ b o, G b = some o → notX o → G' b = some o) : ∀ {ds : List D} {vs : List V}, nxoL ds = true → RpL Y G ds vs → RpL Y G' ds vs
  | [], vs, _, h => by rw [RpL] at h ⊢; exact h
  | d :: ds, vs, n, h => by
    rw [RpL] at h ⊢
    rw [nxoL, Bool.and_eq_true] at n
    obtain ⟨v, r, h1, h2, h3⟩ := h
    exact ⟨v, r, h1, rp_less e n.1 h2, rpl_less e n.2 h3⟩
end
end
/-! ### what runs to True -/
abbrev zL0 (Y : Lay) (ρ n : Nat) (E : XK) : Ct := { Y := { Y with ρ := ρ, xn := fun a => n ≤ a }, W := fun cls d _ H => E cls d H, fc := 0, Nw := fun _ => True }
/-- the statements run to True where R holds -/
def DSx (X : Cx) (Z : Ct) (ss : List Stmt) (R : DEnv → List D → Prop) : Prop :=
  ∃ t, PSs X ss t ∧ ∀ σ H G env st (Dn : Ends), ER Z.Y Z.fc Z.Nw G env st σ H → R env st → (∀ H', Dn.rt (.bl true) H') → t Dn σ H
theorem en_all {M : Addr → Prop} {G H : Hp} : En M (fun _ => True) G H G H := ⟨fun _ _ => trivial, fun _ _ h => h, fun _ _ _ _ n => absurd trivial n, fun _ _ _ => .inr trivial⟩
section
variable {X : Cx} {Z : Ct} {k : Nat}
theorem dsx_cons {s : Stmt} {ss : List Stmt} {f : DEnv → List D → SR} {R : DEnv → List D → Prop} (hN : Z.Nw = fun _ => True) (h : DSt X Z s f) (t : DSx X Z ss R) : DSx X Z (s :: ss) (fun env st => ∃ env1 st1, f env st = .nx env1 st1 ∧ R env1 st1) := by
  obtain ⟨t1, p1, r1⟩ := h
  obtain ⟨t2, p2, r2⟩ := t
  refine ⟨_, pss_cons p1 p2, fun σ H G env st Dn er hR hD => ?_⟩
  obtain ⟨env1, st1, hf, hR⟩ := hR
  refine r1 G H σ H G env st _ er (by rw [hN]; exact en_all) ?_
  rw [hf]
  exact fun σ1 G1 H1 er1 _ => r2 σ1 H1 G1 env1 st1 Dn er1 hR hD
/-- what is tracked is so in some heap -/
theorem pss_hok {ss : List Stmt} {t : TS} (h : PSs X ss t) : PSs X ss (fun Dn σ H => (∃ hp, HOk X.prog X.w H hp) → t Dn σ H) :=
  ⟨fun pins s σ H Dn I q => h.run pins s σ H Dn I (q ⟨_, I.hok⟩)⟩
theorem ps_hok {st : Stmt} {t : TS} (h : PS X st t) : PS X st (fun Dn σ H => (∃ hp, HOk X.prog X.w H hp) → t Dn σ H) :=
  ⟨fun pins s σ H Dn I q => h.run pins s σ H Dn I (q ⟨_, I.hok⟩)⟩
theorem exg_cls {P : Program} {w : World} {H : Hp} {a : Addr} {c1 c2 : Value} {d1 d2 : Option Addr} (h : ∃ hp, HOk P w H hp) (h1 : H a = some (ExG c1 d1 a)) (h2 : H a = some (ExG c2 d2 a)) : c1 = c2 := by
  obtain ⟨hp, hok⟩ := h
  obtain ⟨⟨o1, u1, g1, z1, _⟩, _⟩ := hok a _ h1
  obtain ⟨⟨o2, u2, g2, z2, _⟩, _⟩ := hok a _ h2
  rw [g1] at g2
  cases g2
  exact z1.1.symm.trans z2.1
theorem noSl (m : Nat) (i : Nat) (s : Sl) (h : (List.replicate m Sl.un)[i]? = some s) : s = .un ∧ i < m := by
  rw [List.getElem?_replicate] at h
  split at h
  · cases h; exact ⟨rfl, by assumption⟩
  · cases h
/-- nothing but unbound names -/
theorem ER.uns {Y : Lay} {fc : Addr} {Nw : Addr → Prop} {G H : Hp} {st : List D} {σ : L2.St} {m : Nat} (fz : Le G H) (row : RowR Y G st H) (hl : m ≤ σ.length) : ER Y fc Nw G (List.replicate m .un) st σ H := by
  refine ⟨fz, fun i s hs => ?_, fun i j o u hi => ?_, row⟩
  · obtain ⟨rfl, hi⟩ := noSl m i s hs
    exact ⟨σ[i], List.getElem?_eq_getElem (by omega), True.intro⟩
  · obtain ⟨z, _⟩ := noSl m i _ hi
    cases z
theorem ER.len {Y : Lay} {fc : Addr} {Nw : Addr → Prop} {G H : Hp} {env : DEnv} {st : List D} {σ : L2.St} (er : ER Y fc Nw G env st σ H) : env.length ≤ σ.length := by
  cases h : env.length with
  | zero => omega
  | succ n =>
    obtain ⟨x, hx, _⟩ := er.sl n _ (List.getElem?_eq_getElem (by omega))
    have := (List.getElem?_eq_some_iff.mp hx).1
    omega
/-- for y in iter: if ..; try: raise y except C as e: suite -/
theorem dsx_tail {ρ : Nat} {Y0 : Lay} {E : XK} {x n y : Str} {CS : Addr} {i j m : Nat} {ifs : Stmt} {suite : List Stmt} {b₀ : Stmt} {np pos pos' p1 p2 p3 p4 p5 p6 : Pos} {jj : Nat} {iter : Expr} {φ : DEnv → List D → Res D} {f1 φs : DEnv → List D → SR}
    (o : Oks X Z k) (hZ : Z = zL0 Y0 ρ X.s_0.heap.objs.size E) (hxa : Y0.xa = none) (htb : Y0.tb = []) (hex : X.ex = []) (hs : X.stack = X.env :: X.outer) (hf : X.env.frame = some X.env.locals) (hi : X.N[j]? = some n) (hln : X.env.kindOf n = some .local) (hg : Gl X x) (hdx : (x == ("__debug__" : Str)) = false) (hm : X.mg x = some (.ref CS))
    (hy : X.N[i]? = some y) (hly : Loc X.env.scope y) (hfy : X.fn y = true ∨ X.env.scope.names.lookup y = some .local) (hvy : Vis X.env.scope y) (hd : (y == ("__debug__" : Str)) = false) (hcd : (y == ("__classdict__" : Str)) = false) (hij : i ≠ j) (him : i < m) (hjm : j < m) (hmN : m ≤ X.N.length)
    (hfs : ∀ v, foldedSetIterable iter X.env v = pure v)
    (hit : DE X Z iter φ) (hif : DSt X Z ifs f1)
    (hsu : ∀ (a : Addr) (oe : Obj) (d : Option Addr) (c : Nat) (pn : List (Addr × Obj)), Zc (.ref (Y0.C c)) d oe → (∃ vs, oe.data = .fields vs) → DSs (X.suite a ((a, oe) :: pn)) (zSu { Y0 with xn := fun a => X.s_0.heap.objs.size ≤ a } ρ a d c) (b₀ :: suite) φs)
    (L : DEnv → List D → List (Nat × List D)) (S1 : DEnv → List D → List D)
    (hcl : ∀ env st, ∀ p ∈ L env st, Raises X (.ref (Y0.C p.1)) ∧ PySem.W.exmOne X.K (.ref (Y0.C p.1)) (.ref CS) = some true ∧ nxoL p.2 = true ∧ plnL p.2 = true)
    (hdi : ∀ env st, (L env st).Pairwise fun p q => Y0.C p.1 ≠ Y0.C q.1)
    (hst : ∀ env st, nxoL (S1 env st) = true ∧ plnL (S1 env st) = true)
    (h1 : ∀ env st, ∀ p ∈ L env st, f1 ((List.replicate m Sl.un).set i (.val (.exo p.1 p.2))) (S1 env st) = .nx ((List.replicate m Sl.un).set i (.val (.exo p.1 p.2))) (S1 env st))
    (h2 : ∀ env st, ∀ p ∈ L env st, φs (((List.replicate m Sl.un).set i (.val (.exn p.1 p.2))).set j (.val (.exn p.1 p.2))) (S1 env st) = .nx (((List.replicate m Sl.un).set i (.val (.exn p.1 p.2))).set j (.val (.exn p.1 p.2))) (S1 env st)) :
    DSx X Z [.For (.Name y p4) iter [ifs, .Try [.Raise (some (.Name y p1)) none p2] [.ExceptHandler (some (.Name x np)) (some n) (b₀ :: suite) pos'] [] [] pos] [] p3, .Return (some (.Constant (.bool true) jj p6)) p5]
      (fun env st => env.length = m ∧ φ env st = .ok (.lst ((L env st).map fun p => .exo p.1 p.2)) (S1 env st)) := by
  subst hZ
  obtain ⟨ti, pi, ri⟩ := hit
  obtain ⟨t1, q1, r1⟩ := hif
  have psu : ∀ (a : Addr) (oe : Obj) (cls : Value) (d : Option Addr) (pn : List (Addr × Obj)), Zc cls d oe → (∃ vs, oe.data = .fields vs) → PSs (X.suite a ((a, oe) :: pn)) (b₀ :: suite)
      (fun (Dn : Ends) σ H => ∃ (c : Nat) (G : Hp) (env : DEnv) (st : List D), cls = .ref (Y0.C c) ∧ ER (zSu { Y0 with xn := fun a => X.s_0.heap.objs.size ≤ a } ρ a d c).Y 0 (fun _ => True) G env st σ H ∧ SPost (zSu { Y0 with xn := fun a => X.s_0.heap.objs.size ≤ a } ρ a d c) G H (φs env st) Dn) :=
    fun a oe cls d pn hz hfl => ⟨fun pins s σ H Dn I ⟨c, G, env, st, ec, er, po⟩ => by
      subst ec
      obtain ⟨t, p, r⟩ := hsu a oe d c pn hz hfl
      exact p.run pins s σ H Dn I (r G H σ H G env st Dn er en_all po)⟩
  have ptry := ps_tryRaise (c := .ref CS) (np := np) (pos := pos) (pos' := pos') (p1 := p1) (p2 := p2) hs hf o.calm hex o.nd hi hln hg hdx hm hy hvy hd hcd psu
  have pfor := ps_for (pos := p3) o.po o.calm (pi_seq (tg := .Name y p4) pi) (pg_name (pos := p4) o.nd hy hly hfy) (pss_cons q1 (pss_one (ps_hok ptry))) hfs
  refine ⟨_, pss_cons pfor (pss_one (ps_ret (pos := p5) (pe_bl (b := true) (j := jj) (pos := p6)))), fun σ H G env st Dn er hR hD => ?_⟩
  obtain ⟨hlen, hφ⟩ := hR
  refine ri σ H G env st _ er ?_
  rw [hφ]
  intro v G1 H1 e1 row1 rv
  have rv : Rp (zL0 Y0 ρ X.s_0.heap.objs.size E).Y G1 (.lst ((L env st).map fun p => .exo p.1 p.2)) v := rv
  obtain ⟨l, vs, rfl, hl, rvs⟩ := lst_inv rv
  have hvl : vs.length = (L env st).length := by rw [← rvs.length, List.length_map]
  obtain ⟨hs1, hs2⟩ := hst env st
  refine ⟨true, l, vs, rfl, SqL.of (e1.f _ _ hl), fun t q σ H => t + q = (L env st).length ∧ ∃ G, ER (zL0 Y0 ρ X.s_0.heap.objs.size E).Y 0 (fun _ => True) G (List.replicate m .un) (S1 env st) σ H ∧ G l = some (.lst vs) ∧ ∀ u, t ≤ u → ∀ p w, (L env st)[u]? = some p → vs[u]? = some w → Rp (zL0 Y0 ρ X.s_0.heap.objs.size E).Y G (.exo p.1 p.2) w,
    ⟨(L env st).length, by omega, G1, ER.uns e1.f row1 (by have := er.len; omega), hl, fun u _ p w hp hw => ?_⟩, ?_⟩
  · obtain ⟨w', hw', rw'⟩ := rvs.get (i := u) (d := .exo p.1 p.2) (by rw [List.getElem?_map, hp]; rfl)
    rw [hw] at hw'
    cases hw'
    exact rw'
  rintro t q σ2 H2 ⟨hq, G2, er2, hl2, hex2⟩
  have hsq : SqK true X.K H2 l vs := SqL.of (er2.fz _ _ hl2)
  cases hp : (L env st)[t]? with
  | none =>
    have hle : (L env st).length ≤ t := List.getElem?_eq_none_iff.mp hp
    exact .inl ⟨⟨hsq, by omega⟩, hD H2⟩
  | some p =>
    have hlt : t < (L env st).length := (List.getElem?_eq_some_iff.mp hp).1
    have hmem : p ∈ L env st := List.mem_of_getElem? hp
    refine .inr ⟨⟨hsq, by omega⟩, fun σ H => ∃ G, ER (zL0 Y0 ρ X.s_0.heap.objs.size E).Y 0 (fun _ => True) G (List.replicate m .un) (S1 env st) σ H ∧ G l = some (.lst vs) ∧ ∀ u, t + 1 ≤ u → ∀ p w, (L env st)[u]? = some p → vs[u]? = some w → Rp (zL0 Y0 ρ X.s_0.heap.objs.size E).Y G (.exo p.1 p.2) w, fun σ' H' hN => ⟨q - 1, by omega, by omega, hN⟩, fun x H' hyl => ?_⟩
    obtain ⟨rfl, hx⟩ := hyl
    have rx := hex2 t (Nat.le_refl _) p x hp hx
    have er3 := er2.set_val (i := i) rx
    show t1 _ (σ2.set i (some x)) _
    refine r1 G2 _ _ _ G2 _ (S1 env st) _ er3 en_all ?_
    rw [h1 env st p hmem]
    intro σ3 G3 H3 er4 en4 hok
    obtain ⟨x3, s3, v3, ev3, rv3⟩ := er4.sl i (.val (.exo p.1 p.2)) (by rw [List.getElem?_set_self (by simpa using him)])
    obtain ⟨a, d, ws, rfl, hn, ha, hxd, hlw, rws⟩ := exo_inv rv3
    obtain ⟨c1, c2, c3, c4⟩ := hcl env st p hmem
    have haH := er4.fz _ _ ha
    refine ⟨a, .ref (Y0.C p.1), d, s3.trans (congrArg some ev3), haH, hn, c1, c2, ?_⟩
    have less : ∀ b o, G3 b = some o → notX o → delH G3 a b = some o := fun b o h n => by
      rw [delH_ne fun z => n _ (by rw [z, ha] at h; exact (Option.some.inj h).symm)]
      exact h
    have lenσ : m ≤ σ3.length := by have := er4.len; simpa using this
    have rxn : Rp (zSu { Y0 with xn := fun a => X.s_0.heap.objs.size ≤ a } ρ a d p.1).Y (delH G3 a) (.exn p.1 p.2) (.ref a) := by
      rw [Rp]
      refine ⟨a, d, ws, rfl, rfl, ?_, hlw, (rpl_toX (z := some (a, d, p.1)) (Y := (zL0 Y0 ρ X.s_0.heap.objs.size E).Y) hxa (rpl_less less c3 rws)).2⟩
      cases d with
      | none => exact hxd
      | some dx => exact less _ _ hxd fun _ z => by cases z
    have row3 : RowR (zSu { Y0 with xn := fun a => X.s_0.heap.objs.size ≤ a } ρ a d p.1).Y (delH G3 a) (S1 env st) (delH H3 a) := by
      obtain ⟨rs, w1, w2, w3, w4, w5⟩ := er4.row
      refine ⟨rs, ?_, ?_, (rpl_toX (z := some (a, d, p.1)) (Y := (zL0 Y0 ρ X.s_0.heap.objs.size E).Y) hxa (rpl_less less hs1 w3)).2, fun q hq => ?_, fun q hq => ?_⟩
      · rw [← w1]
        exact delH_ne fun z => by
          have z : ρ = a := z
          have w1 : H3 ρ = some (.lst rs) := w1
          rw [z, haH] at w1; cases w1
      · show delH G3 a ρ = none
        by_cases z : ρ = a
        · rw [z, delH_same]
        · rw [delH_ne z]; exact w2
      · have hq : q ∈ Y0.tb := hq
        rw [htb] at hq; cases hq
      · have hq : q ∈ Y0.tb := hq
        rw [htb] at hq; cases hq
    have fz3 : Le (delH G3 a) (delH H3 a) := fun b o h => by
      by_cases z : b = a
      · rw [z, delH_same] at h; cases h
      · rw [delH_ne z] at h ⊢
        exact er4.fz _ _ h
    have hσi : (σ3.set j (some (.ref a)))[i]? = some (some (.ref a)) := by
      rw [List.getElem?_set_ne (Ne.symm hij)]
      exact s3.trans (congrArg some ev3)
    have e5 : ER (zSu { Y0 with xn := fun a => X.s_0.heap.objs.size ≤ a } ρ a d p.1).Y 0 (fun _ => True) (delH G3 a) (((List.replicate m Sl.un).set i (.val (.exn p.1 p.2))).set j (.val (.exn p.1 p.2))) (S1 env st) (σ3.set j (some (.ref a))) (delH H3 a) := by
      have b0 := ER.uns (Y := (zSu { Y0 with xn := fun a => X.s_0.heap.objs.size ≤ a } ρ a d p.1).Y) (fc := 0) (Nw := fun _ => True) (m := m) (σ := σ3.set j (some (.ref a))) fz3 row3 (by simpa using lenσ)
      have b1 := ER.set_val (Z := zSu { Y0 with xn := fun a => X.s_0.heap.objs.size ≤ a } ρ a d p.1) (i := i) (v := .ref a) b0 rxn
      have s1 : (σ3.set j (some (V.ref a))).set i (some (.ref a)) = σ3.set j (some (.ref a)) := by
        apply List.ext_getElem?
        intro u
        by_cases z : i = u
        · subst z
          rw [List.getElem?_set_self (by have := (List.getElem?_eq_some_iff.mp hσi).1; exact this), hσi]
        · rw [List.getElem?_set_ne z]
      rw [s1] at b1
      have b2 := ER.set_val (Z := zSu { Y0 with xn := fun a => X.s_0.heap.objs.size ≤ a } ρ a d p.1) (i := j) (v := .ref a) b1 rxn
      rwa [List.set_set] at b2
    refine ⟨p.1, delH G3 a, _, S1 env st, rfl, e5, ?_⟩
    rw [h2 env st p hmem]
    intro σ5 G5 H5 er5 en5
    refine ⟨G5, ER.uns er5.fz (row_unX (Y := (zL0 Y0 ρ X.s_0.heap.objs.size E).Y) hs2 er5.row) (by have := er5.len; simpa using this), en5.g _ _ (less _ _ (en4.g _ _ hl2) fun _ z => by cases z), fun u hu q w hq hw => ?_⟩
    have ru := Rp.mono en4.g (hex2 u (by omega) q w hq hw)
    obtain ⟨a', d', us, rfl, g1, g2, g3, g4, g5⟩ := exo_inv ru
    obtain ⟨k1, k2, k3, k4⟩ := hcl env st q (List.mem_of_getElem? hq)
    have ne : a' ≠ a := fun z => by
      subst z
      have hc := exg_cls hok haH (er4.fz _ _ g2)
      have hlt2 : u < (L env st).length := (List.getElem?_eq_some_iff.mp hq).1
      have pw := List.pairwise_iff_getElem.mp (hdi env st) t u hlt hlt2 (by omega)
      rw [List.getElem?_eq_getElem hlt] at hp
      rw [List.getElem?_eq_getElem hlt2] at hq
      cases hp
      cases hq
      exact pw (by injection hc)
    refine Rp.mono en5.g ?_
    rw [Rp]
    refine ⟨a', d', us, rfl, g1, (delH_ne ne).trans g2, ?_, g4, rpl_less less k3 g5⟩
    cases d' with
    | none => exact g3
    | some dx => exact less _ _ g3 fun _ z => by cases z
end
end DL

set_option Elab.async false
set_option linter.all false
set_option maxRecDepth 100000
set_option maxHeartbeats 2000000
/-! repr of any plain value; a law that ends so. -/
namespace DL
open PySem PySem.Spec PyProof.Rows L2
def rReprS (K : PySem.W.Frag) : List V → Hp → VK → Prop := fun xs H Q => rReprA K xs H Q ∨ ∃ (x : V) (t : Str), xs = [x] ∧ (x = .non ∧ t = "None" ∨ (∃ b, x = .bl b ∧ t = (if b = true then ("True" : Str) else ("False" : Str))) ∨ (∃ i, x = .int i ∧ i.natAbs.log2 < 1920 ∧ t = toString i) ∨ ∃ s, x = .str s ∧ (reprText s).length ≤ sizeLine ∧ t = reprText s) ∧ Q (.str t) H
def oReprS (st : List D) (d : D) : Option D := match d with
  | .non => some (.str (reprD .non))
  | .bl b => some (.str (reprD (.bl b)))
  | .int i => if i.natAbs.log2 < 1920 then some (.str (reprD (.int i))) else none
  | .str l => if (reprText (S l)).length ≤ SZ then some (.str (reprD (.str l))) else none
  | d => oRepr st d
section
variable {X : Cx} {Z : Ct} {k : Nat} {a : Expr} {φ : DEnv → List D → Res D} {x : Str} {p pos : Pos}
theorem cr_reprS (hg : X.A.guards = some []) (hu : X.A.units + 66 < cLine) : CallR X (.builtin "repr") (rReprS X.K) := by
  intro pins s σ H xs us Q I r h
  rcases h with h | ⟨x, t, rfl, h, q⟩
  · exact cr_reprA hg hu pins s σ H xs us Q I r h
  · obtain ⟨u, rfl, ru⟩ := vals1 r
    rcases h with ⟨rfl, rfl⟩ | ⟨b, rfl, rfl⟩ | ⟨i, rfl, hz, rfl⟩ | ⟨s', rfl, hz, rfl⟩
    · obtain rfl : u = Value.none := ru
      exact PySem.P.repr_of_none ⟨.str _, H, I.tok _, ⟨_, rfl⟩, q⟩
    · obtain rfl : u = Value.bool b := ru
      exact PySem.P.repr_of_bool ⟨.str _, H, I.tok _, ⟨_, rfl⟩, q⟩
    · obtain ⟨t, rfl⟩ := ru
      exact PySem.P.repr_of_int hz ⟨.str _, H, I.tok _, ⟨_, rfl⟩, q⟩
    · obtain ⟨t, rfl⟩ := ru
      exact PySem.P.repr_of_str ⟨.str _, H, I.tok _, ⟨_, rfl⟩, q⟩ hz
theorem rp_shown {Y : Lay} {G : Hp} (d : D) : Rp Y G (.str (reprD d)) (.str (toPy DP d).shown) := by
  have := rp_str (Y := Y) (G := G) (reprD d)
  rwa [reprD, S_toList] at this
theorem b1_reprS : B1 Z (rReprS Z.Y.K) oReprS := by
  intro x d u G H σ st Q fz row rx h po
  unfold oReprS at h
  split at h
  · cases h
    have rx : x = .non := by
      rcases rx with h | ⟨_, _, _, z, _⟩ | ⟨_, _, _, _, _, _, z, _⟩
      · exact non_inv h
      · cases z
      · cases z
    subst rx
    exact .inr ⟨_, _, rfl, .inl ⟨rfl, rfl⟩, Post.here (R := rV Z.Y) po fz row (rp_shown .non)⟩
  · rename_i b
    cases h
    have rx : x = .bl b := by
      rcases rx with h | ⟨_, _, _, z, _⟩ | ⟨_, _, _, _, _, _, z, _⟩
      · exact bl_inv h
      · cases z
      · cases z
    subst rx
    exact .inr ⟨_, (toPy DP (.bl b)).shown, rfl, .inr (.inl ⟨b, rfl, PyData.shown_bool b⟩), Post.here (R := rV Z.Y) po fz row (rp_shown (.bl b))⟩
  · rename_i i
    split at h
    · rename_i hi
      cases h
      have rx := vw_int rx
      subst rx
      exact .inr ⟨_, (toPy DP (.int i)).shown, rfl, .inr (.inr (.inl ⟨i, rfl, hi, PyData.shown_int i⟩)), Post.here (R := rV Z.Y) po fz row (rp_shown (.int i))⟩
    · cases h
  · rename_i l
    split at h
    · rename_i hl
      cases h
      have rx := vw_str rx
      subst rx
      exact .inr ⟨_, (toPy DP (.str l)).shown, rfl, .inr (.inr (.inr ⟨S l, rfl, hl, PyData.shown_str _⟩)), Post.here (R := rV Z.Y) po fz row (rp_shown (.str l))⟩
    · cases h
  · exact .inl (b1_repr x d u G H σ st Q fz row rx h po)
theorem e_reprS (o : Okc X Z k) (hg : Gl X x) (hm : X.mg x = none) (ha : DS X Z a φ) (hs : starEach [a] X.env = [(false, eval a X.env)]) (hx : x = "repr") : DE X Z (.Call (.Name x p) [a] [] pos) (b1E oReprS φ) := by
  subst hx; exact de_b1 (cr_reprS o.gd (by have := o.room.un; omega)) (by rw [← o.K]; exact b1_reprS) hg hm boot_repr (by decide) (by decide) ha hs
theorem h_reprS (o : OkN X Z) (hg : Gl X x) (hm : X.mg x = none) (ha : DS X Z a φ) (hs : starEach [a] X.env = [(false, eval a X.env)]) (hx : x = "repr") : DE X Z (.Call (.Name x p) [a] [] pos) (b1E oReprS φ) := by
  subst hx; exact de_b1 (cr_reprS o.gd (by have := o.un; omega)) (by rw [← o.K]; exact b1_reprS) hg hm boot_repr (by decide) (by decide) ha hs
theorem n_eq (o : OkN X Z) : CmpOK X Z .Eq oEq := ⟨_, op_eqD (by have := o.un; omega), by rw [← o.K]; exact od_eq⟩
end
/-! ### the law's def -/
def spLaw0 (K : PySem.W.Frag) (tb : List (Addr × Str)) (P : List Int → Prop) : Sp := fun vs H Q _ => ∃ (a : Addr) (ns : List Int), vs = [.ref a] ∧ SqL K H a (ns.map V.int) ∧ (∀ p ∈ tb, H p.1 = some (.tbl #[])) ∧ P ns ∧ ∀ H', Q (.bl true) H'
theorem dsx_any {X : Cx} {ss : List Stmt} {R : DEnv → List D → Prop} {ι : Type} {Z : ι → Ct} (h : ∀ i, DSx X (Z i) ss R) :
    PSs X ss (fun (Dn : Ends) σ H1 => ∃ (i : ι) (G : Hp) (env : DEnv) (st : List D), ER (Z i).Y (Z i).fc (Z i).Nw G env st σ H1 ∧ R env st ∧ ∀ H', Dn.rt (.bl true) H') :=
  ⟨fun pins s σ H1 Dn I ⟨i, G, env, st, er, hR, hD⟩ => by
    obtain ⟨t, pt, rd⟩ := h i
    exact pt.run pins s σ H1 Dn I (rd σ H1 G env st Dn er hR hD)⟩
section
variable {P : Program} {w : World} {K : PySem.W.Frag} {mg : Str → Option Value} {base : Heap} {x qual : Str} {params : Arguments} {body : List Stmt} {scope : Scope} {f : Addr} {fd : FuncData}
theorem okx_of {Y : Lay} {ρ n : Nat} {N : List Str} {k : Nat} {cdv : Value} {A : Around} {outer : List Env} {s : Shared} {H : Hp} {E : XK} (hK : Y.K = K) (hN : N.Nodup) (hr : Room k (A.deeper (envOfC qual scope s.heap.objs.size f cdv))) (hG : A.guards = some []) :
    Oks (cxOf (L2.CX P w) P w K mg base N qual scope f cdv A outer s H E) (zL0 Y ρ n E) k where
  K := hK
  tk := takes_of (E := E) rfl rfl rfl rfl
  room := hr
  calm := rfl
  nd := hN
  gd := by show (A.deeper _).guards = some []; simpa [Around.deeper] using hG
  po := passes_of rfl
theorem fng_law0 {kws : List (Str × V)} {N : List Str} {Y : Lay} {k : Nat} {R : DEnv → List D → Prop} {PP : List Int → Prop} {x1 x2 : Str} {seed : Int} {rest : List Stmt} {p1 p2 p3 p4 p5 p6 p7 : Pos} {j1 j2 j3 : Nat} (hK : Y.K = K) (htb : Y.tb = [])
    (hbd : body = .Assign [.Name x2 p1] (.List [.Name x1 p2, .Constant (.int 0) j1 p3, .Constant (.int seed) j2 p4, .Constant (.int 0) j3 p5] p6) p7 :: rest) (F : FunD K x qual params body scope [] kws f fd) (S : FnScope N [x1] scope) (hN : N[0]? = some x1) (hN1 : N[1]? = some x2)
    (hv : Vis scope x1) (hl : Loc scope x2) (hfn : scope.names.lookup x2 = some .local) (d1 : (x1 == ("__debug__" : Str)) = false) (d2 : (x1 == ("__classdict__" : Str)) = false)
    (hs : ∀ env : Env, env.scope = scope → swapsWith (.List [.Name x1 p2, .Constant (.int 0) j1 p3, .Constant (.int seed) j2 p4, .Constant (.int 0) j3 p5] p6) (some (.Name x2 p1)) p7.line env = pure false)
    (hR : ∀ ns, PP ns → R (.val (.scr (ns.map D.int)) :: .val .row :: List.replicate (N.length - 2) Sl.un) [.scr (ns.map D.int), .int 0, .int seed, .int 0])
    (h : ∀ (ρ : Nat) (cdv : Value) (A : Around) (outer : List Env) (s : Shared) (H : Hp) (E : XK), Oks (cxOf (L2.CX P w) P w K mg base N qual scope f cdv A outer s H E) (zL0 Y ρ s.heap.objs.size E) k → DSx (cxOf (L2.CX P w) P w K mg base N qual scope f cdv A outer s H E) (zL0 Y ρ s.heap.objs.size E) rest R) :
    FnG P w K mg base (L2.CX P w) (k + 1) f fd [x1] (spLaw0 K Y.tb PP) := by
  subst hbd
  refine fng_ofC F S (fun vs H Q E hs => ?_) (fun cdv A outer s H vs Q E hcd hr hG hsp => ?_)
  · obtain ⟨a, ns, rfl, _⟩ := hs
    rfl
  · obtain ⟨a, ns, rfl, hS, _, hPP, hQ⟩ := hsp
    have prest := dsx_any (Z := fun ρ => zL0 Y ρ s.heap.objs.size E) fun ρ => h ρ cdv A outer s H E (okx_of hK S.nd hr hG)
    have nlen : 2 ≤ N.length := by
      have := (List.getElem?_eq_some_iff.mp hN1).1
      omega
    refine ⟨_, pss_cons (ps_set (i := 1) S.nd hN1 hl (pe_lst (pa_cons (pe_var (i := 0) hN hv d1 d2) (pa_cons pe_int (pa_cons pe_int (pa_cons pe_int pa_nil rfl) rfl) rfl) rfl)) (hs _ rfl) (.inr hfn)) prest, ?_⟩
    refine ⟨.ref a, by unfold L2.start; simp, by rw [sizeLine_eq]; show 4 ≤ 16777216; decide, fun p hp => ?_⟩
    obtain ⟨G, hGH, hGS⟩ : ∃ G : Hp, Le G H ∧ SqL K G a (ns.map V.int) := by
      rcases hS with (hS | ⟨o, hS⟩) | hS
      · refine ⟨fun b => if b = a then H b else none, fun b o h => ?_, .inl (.inl ((if_pos rfl).trans hS))⟩
        by_cases e : b = a
        · exact (if_pos e).symm.trans h
        · have z := (if_neg e).symm.trans h
          cases z
      · refine ⟨fun b => if b = a then H b else none, fun b o h => ?_, .inl (.inr ⟨o, (if_pos rfl).trans hS⟩)⟩
        by_cases e : b = a
        · exact (if_pos e).symm.trans h
        · have z := (if_neg e).symm.trans h
          cases z
      · exact ⟨fun _ => none, fun b o h => (by cases h), .inr hS⟩
    have hGp : G p = none := by
      cases e : G p with
      | none => rfl
      | some o => rw [hGH _ _ e] at hp; cases hp
    have rscr : Rp (zL0 Y p s.heap.objs.size E).Y G (.scr (ns.map D.int)) (.ref a) := by
      rw [Rp]
      exact ⟨a, ns.map V.int, rfl, by rw [show (zL0 Y p s.heap.objs.size E).Y.K = K from hK]; exact hGS, rpl_ints ns⟩
    have row : RowR (zL0 Y p s.heap.objs.size E).Y G [.scr (ns.map D.int), .int 0, .int seed, .int 0] (upd H p (.lst [.ref a, .int 0, .int seed, .int 0])) :=
      ⟨_, upd_same, hGp, RpL.cons rscr (RpL.cons (rp_int _) (RpL.cons (rp_int _) (RpL.cons (rp_int _) RpL.nil))), fun q hq => (by have hq : q ∈ Y.tb := hq; rw [htb] at hq; cases hq), fun q hq => (by have hq : q ∈ Y.tb := hq; rw [htb] at hq; cases hq)⟩
    have fz : Le G (upd H p (.lst [.ref a, .int 0, .int seed, .int 0])) := fun b o h => by
      rw [upd_ne (fun z => by rw [z, hGp] at h; cases h)]
      exact hGH b o h
    refine ⟨p, G, .val (.scr (ns.map D.int)) :: .val .row :: List.replicate (N.length - 2) Sl.un, [.scr (ns.map D.int), .int 0, .int seed, .int 0], ⟨fz, fun i sl hi => ?_, fun i j o u hi => ?_, row⟩, hR ns hPP, hQ⟩
    · match i, hi with
      | 0, hi =>
        cases hi
        exact ⟨some (.ref a), by unfold L2.start; simp, .ref a, rfl, rscr⟩
      | 1, hi =>
        cases hi
        refine ⟨some (.ref p), by
          rw [List.getElem?_set_self]
          unfold L2.start
          simp
          omega, .ref p, rfl, by rw [Rp]⟩
      | i + 2, hi =>
        simp only [List.getElem?_cons_succ] at hi
        obtain ⟨rfl, hlt⟩ := noSl _ _ _ hi
        refine ⟨none, ?_, True.intro⟩
        rw [List.getElem?_set_ne (by omega)]
        unfold L2.start
        rw [List.getElem?_append_right (by simp)]
        rw [List.getElem?_replicate]
        simp
        omega
    · exfalso
      match i, hi with
      | 0, hi => cases hi
      | 1, hi => cases hi
      | i + 2, hi =>
        simp only [List.getElem?_cons_succ] at hi
        obtain ⟨z, _⟩ := noSl _ _ _ hi
        cases z
end
end DL

set_option Elab.async false
set_option linter.all false
set_option maxRecDepth 100000
set_option maxHeartbeats 0
namespace K0
open PySem PySem.Spec PyProof.Rows L2 DL
abbrev Pr : Program := PySem.Challenge.rw_spillgates_k00_errors_tell_their_fields.prog
def top (i : Nat) : Stmt := PySem.Challenge.pw_spillgates_k00_errors_tell_their_fields.main.body.getD i (.Pass ⟨0, 0, 0, 0⟩)
def meth (i j : Nat) : Stmt := match top i with
  | .ClassDef _ _ _ b _ _ _ _ _ _ _ => b.getD j (.Pass ⟨0, 0, 0, 0⟩)
  | _ => .Pass ⟨0, 0, 0, 0⟩
def clsN (i : Nat) : Str := match i with
  | 0 => "DamError" | 1 => "BadPart" | 2 => "BadNumber" | 3 => "Unknown" | 4 => "BadCourse" | 5 => "BadChange" | 6 => "BadText" | 7 => "BadLine" | 8 => "BadClaim" | _ => "NothingDone"
def flN (i : Nat) : List Str := match i with
  | 1 => ["part", "place"] | 2 => ["value"] | 3 => ["name"] | 4 => ["place"] | 5 => ["place"] | 6 => ["line"] | 7 => ["line"] | _ => []
def tfL : List He.Defn := []
abbrev Yo (K : PySem.W.Frag) (ρ0 : Addr) (xn0 : Addr → Prop) : Lay where
  K := K
  C := fun i => He.ga K (clsN i)
  F := fun _ => 0
  fl := flN
  dict := fun _ _ _ _ => False
  tb := []
  dni := fun _ _ _ _ h => h.elim
  ρ := ρ0
  xn := xn0
def fa : List He.Fa := [.free "int", .free "len", .glo "_law_taken", .free "repr", .free "isinstance", .glo "BadPart", .glo "BadNumber", .glo "Unknown", .glo "BadCourse", .glo "BadChange", .glo "BadText", .glo "BadLine", .glo "BadClaim", .glo "NothingDone", .free "ValueError", .glo "_law_pick", .free "super", .glo "_law_same", .glo "_law_refusal", .glo "DamError"] ++ [.glo "law", .glo "DamError", .free "super"]
def fn : List He.DefD := [⟨("_law_taken", none), "_law_taken", "_law_taken", defArgs (top 12), defBody (top 12), defScope (top 12), [], []⟩,
  ⟨("_law_pick", none), "_law_pick", "_law_pick", defArgs (top 13), defBody (top 13), defScope (top 13), [], []⟩,
  ⟨("_law_same", none), "_law_same", "_law_same", defArgs (top 14), defBody (top 14), defScope (top 14), [], []⟩,
  ⟨("_law_refusal", none), "_law_refusal", "_law_refusal", defArgs (top 15), defBody (top 15), defScope (top 15), [], []⟩,
  ⟨("law", none), "law", "law", defArgs (top 16), defBody (top 16), defScope (top 16), [], []⟩]
def iniD (x : Str) (i : Nat) : IniD := ⟨x, x ++ ".__init__", defArgs (meth i 0), defBody (meth i 0), defScope (meth i 0)⟩
def ini : List IniD := [iniD "BadPart" 2, iniD "BadNumber" 3, iniD "Unknown" 4, iniD "BadCourse" 5, iniD "BadChange" 6, iniD "BadText" 7, iniD "BadLine" 8, iniD "BadClaim" 9, iniD "NothingDone" 10]
def excs : List Nat := [1, 2, 3, 4, 5, 6, 7, 8, 9]
def ex (K : PySem.W.Frag) : Bool := (excs.all fun c => errB Pr.main.file K (clsN c) (flN c)) && ((excs.all fun c => excB K (clsN c)) &&
  ((excs.all fun c => excs.all fun k => kitB2 K (clsN c) (clsN k) (decide (c = k))) && ((excs.all fun c => kitB2 K (clsN c) "DamError" true) && ((excs.all fun c => decide (PySem.W.kitOne K (.ref (He.ga K (clsN c))) (.type "ValueError") = some true)) &&
  ((excs.all fun c => decide (PySem.W.exmOne K (.ref (He.ga K (clsN c))) (.ref (He.ga K "DamError")) = some true)) && ((excs.all fun c => (flN c).all fun f => decide (PySem.W.findIn K (.ref (He.ga K (clsN c))) f = some none)) &&
  (excs.all fun c => excs.all fun k => decide (c = k) || !decide (He.ga K (clsN c) = He.ga K (clsN k)))))))))
abbrev TT (K : PySem.W.Frag) (mg : Str → Option Value) (base : Heap) : Prop := TZ fa fn tfL ini ex K mg base
def faN : Nat := fa.length
section
variable {w : World} {K : PySem.W.Frag} {mg : Str → Option Value} {base : Heap} {ρ0 : Addr} {xn0 : Addr → Prop}
structure Ex (K : PySem.W.Frag) : Prop where
  er : ∀ c ∈ excs, errB Pr.main.file K (clsN c) (flN c) = true
  xc : ∀ c ∈ excs, excB K (clsN c) = true
  kt : ∀ c ∈ excs, ∀ k ∈ excs, kitB2 K (clsN c) (clsN k) (decide (c = k)) = true
  kd : ∀ c ∈ excs, kitB2 K (clsN c) "DamError" true = true
  kv : ∀ c ∈ excs, PySem.W.kitOne K (.ref (He.ga K (clsN c))) (.type "ValueError") = some true
  xm : ∀ c ∈ excs, PySem.W.exmOne K (.ref (He.ga K (clsN c))) (.ref (He.ga K "DamError")) = some true
  nf : ∀ c ∈ excs, ∀ f ∈ flN c, PySem.W.findIn K (.ref (He.ga K (clsN c))) f = some none
  ne : ∀ c ∈ excs, ∀ k ∈ excs, c ≠ k → He.ga K (clsN c) ≠ He.ga K (clsN k)
theorem ex_of (T : TT K mg base) : Ex K := by
  obtain ⟨h1, h⟩ := He.ba T.more
  obtain ⟨h2, h⟩ := He.ba h
  obtain ⟨h3, h⟩ := He.ba h
  obtain ⟨h4, h⟩ := He.ba h
  obtain ⟨h5, h⟩ := He.ba h
  obtain ⟨h6, h⟩ := He.ba h
  obtain ⟨h7, h8⟩ := He.ba h
  exact ⟨fun c hc => List.all_eq_true.mp h1 c hc, fun c hc => List.all_eq_true.mp h2 c hc, fun c hc k hk => List.all_eq_true.mp (List.all_eq_true.mp h3 c hc) k hk, fun c hc => List.all_eq_true.mp h4 c hc, fun c hc => of_decide_eq_true (List.all_eq_true.mp h5 c hc), fun c hc => of_decide_eq_true (List.all_eq_true.mp h6 c hc),
    fun c hc f hf => of_decide_eq_true (List.all_eq_true.mp (List.all_eq_true.mp h7 c hc) f hf), fun c hc k hk hne => by
      have := List.all_eq_true.mp (List.all_eq_true.mp h8 c hc) k hk
      simpa [hne] using this⟩
theorem et_BadPart0 (T : TT K mg base) : PySem.DErr.Txt Pr K (He.ga K "BadPart") (He.ma K (He.ga K "BadPart") "__init__") ["part", "place"] :=
  txt_of (d := iniD "BadPart" 2) (ini_at T.ini 0 rfl) ((ex_of T).er 1 (by decide)) ⟨⟨_, _, _, _, _, _, _, _, _, rfl, .cons _ _ _ _ (.cons _ _ _ _ .nil)⟩, by kernel_rfl, ⟨_, rfl, rfl⟩, rfl, rfl, rfl, by decide +kernel, by decide +kernel, by decide +kernel, by decide +kernel, by decide +kernel, by decide +kernel,
    fun dV kV doc pm an cda ct cc s us hd hl => by subst hd; exact match us, hl with | [_, _, _], _ => BindsTo.of_eq rfl, fun st h e p h2 env => by cases h; cases h2; rfl, fun st h o m ap as p p' h2 env => by cases h; cases h2; exact ⟨_, rfl⟩⟩
theorem et_BadPart (T : TT K mg base) : PySem.DErr.Txt Pr K ((Yo K ρ0 xn0).C 1) (He.ma K (He.ga K "BadPart") "__init__") ((Yo K ρ0 xn0).fl 1) := et_BadPart0 T
theorem et_BadNumber0 (T : TT K mg base) : PySem.DErr.Txt Pr K (He.ga K "BadNumber") (He.ma K (He.ga K "BadNumber") "__init__") ["value"] :=
  txt_of (d := iniD "BadNumber" 3) (ini_at T.ini 1 rfl) ((ex_of T).er 2 (by decide)) ⟨⟨_, _, _, _, _, _, _, _, _, rfl, .cons _ _ _ _ .nil⟩, by kernel_rfl, ⟨_, rfl, rfl⟩, rfl, rfl, rfl, by decide +kernel, by decide +kernel, by decide +kernel, by decide +kernel, by decide +kernel, by decide +kernel,
    fun dV kV doc pm an cda ct cc s us hd hl => by subst hd; exact match us, hl with | [_, _], _ => BindsTo.of_eq rfl, fun st h e p h2 env => by cases h; cases h2; rfl, fun st h o m ap as p p' h2 env => by cases h; cases h2; exact ⟨_, rfl⟩⟩
theorem et_BadNumber (T : TT K mg base) : PySem.DErr.Txt Pr K ((Yo K ρ0 xn0).C 2) (He.ma K (He.ga K "BadNumber") "__init__") ((Yo K ρ0 xn0).fl 2) := et_BadNumber0 T
theorem et_Unknown0 (T : TT K mg base) : PySem.DErr.Txt Pr K (He.ga K "Unknown") (He.ma K (He.ga K "Unknown") "__init__") ["name"] :=
  txt_of (d := iniD "Unknown" 4) (ini_at T.ini 2 rfl) ((ex_of T).er 3 (by decide)) ⟨⟨_, _, _, _, _, _, _, _, _, rfl, .cons _ _ _ _ .nil⟩, by kernel_rfl, ⟨_, rfl, rfl⟩, rfl, rfl, rfl, by decide +kernel, by decide +kernel, by decide +kernel, by decide +kernel, by decide +kernel, by decide +kernel,
    fun dV kV doc pm an cda ct cc s us hd hl => by subst hd; exact match us, hl with | [_, _], _ => BindsTo.of_eq rfl, fun st h e p h2 env => by cases h; cases h2; rfl, fun st h o m ap as p p' h2 env => by cases h; cases h2; exact ⟨_, rfl⟩⟩
theorem et_Unknown (T : TT K mg base) : PySem.DErr.Txt Pr K ((Yo K ρ0 xn0).C 3) (He.ma K (He.ga K "Unknown") "__init__") ((Yo K ρ0 xn0).fl 3) := et_Unknown0 T
theorem et_BadCourse0 (T : TT K mg base) : PySem.DErr.Txt Pr K (He.ga K "BadCourse") (He.ma K (He.ga K "BadCourse") "__init__") ["place"] :=
  txt_of (d := iniD "BadCourse" 5) (ini_at T.ini 3 rfl) ((ex_of T).er 4 (by decide)) ⟨⟨_, _, _, _, _, _, _, _, _, rfl, .cons _ _ _ _ .nil⟩, by kernel_rfl, ⟨_, rfl, rfl⟩, rfl, rfl, rfl, by decide +kernel, by decide +kernel, by decide +kernel, by decide +kernel, by decide +kernel, by decide +kernel,
    fun dV kV doc pm an cda ct cc s us hd hl => by subst hd; exact match us, hl with | [_, _], _ => BindsTo.of_eq rfl, fun st h e p h2 env => by cases h; cases h2; rfl, fun st h o m ap as p p' h2 env => by cases h; cases h2; exact ⟨_, rfl⟩⟩
theorem et_BadCourse (T : TT K mg base) : PySem.DErr.Txt Pr K ((Yo K ρ0 xn0).C 4) (He.ma K (He.ga K "BadCourse") "__init__") ((Yo K ρ0 xn0).fl 4) := et_BadCourse0 T
theorem et_BadChange0 (T : TT K mg base) : PySem.DErr.Txt Pr K (He.ga K "BadChange") (He.ma K (He.ga K "BadChange") "__init__") ["place"] :=
  txt_of (d := iniD "BadChange" 6) (ini_at T.ini 4 rfl) ((ex_of T).er 5 (by decide)) ⟨⟨_, _, _, _, _, _, _, _, _, rfl, .cons _ _ _ _ .nil⟩, by kernel_rfl, ⟨_, rfl, rfl⟩, rfl, rfl, rfl, by decide +kernel, by decide +kernel, by decide +kernel, by decide +kernel, by decide +kernel, by decide +kernel,
    fun dV kV doc pm an cda ct cc s us hd hl => by subst hd; exact match us, hl with | [_, _], _ => BindsTo.of_eq rfl, fun st h e p h2 env => by cases h; cases h2; rfl, fun st h o m ap as p p' h2 env => by cases h; cases h2; exact ⟨_, rfl⟩⟩
theorem et_BadChange (T : TT K mg base) : PySem.DErr.Txt Pr K ((Yo K ρ0 xn0).C 5) (He.ma K (He.ga K "BadChange") "__init__") ((Yo K ρ0 xn0).fl 5) := et_BadChange0 T
theorem et_BadText0 (T : TT K mg base) : PySem.DErr.Txt Pr K (He.ga K "BadText") (He.ma K (He.ga K "BadText") "__init__") ["line"] :=
  txt_of (d := iniD "BadText" 7) (ini_at T.ini 5 rfl) ((ex_of T).er 6 (by decide)) ⟨⟨_, _, _, _, _, _, _, _, _, rfl, .cons _ _ _ _ .nil⟩, by kernel_rfl, ⟨_, rfl, rfl⟩, rfl, rfl, rfl, by decide +kernel, by decide +kernel, by decide +kernel, by decide +kernel, by decide +kernel, by decide +kernel,
    fun dV kV doc pm an cda ct cc s us hd hl => by subst hd; exact match us, hl with | [_, _], _ => BindsTo.of_eq rfl, fun st h e p h2 env => by cases h; cases h2; rfl, fun st h o m ap as p p' h2 env => by cases h; cases h2; exact ⟨_, rfl⟩⟩
theorem et_BadText (T : TT K mg base) : PySem.DErr.Txt Pr K ((Yo K ρ0 xn0).C 6) (He.ma K (He.ga K "BadText") "__init__") ((Yo K ρ0 xn0).fl 6) := et_BadText0 T
theorem et_BadLine0 (T : TT K mg base) : PySem.DErr.Txt Pr K (He.ga K "BadLine") (He.ma K (He.ga K "BadLine") "__init__") ["line"] :=
  txt_of (d := iniD "BadLine" 8) (ini_at T.ini 6 rfl) ((ex_of T).er 7 (by decide)) ⟨⟨_, _, _, _, _, _, _, _, _, rfl, .cons _ _ _ _ .nil⟩, by kernel_rfl, ⟨_, rfl, rfl⟩, rfl, rfl, rfl, by decide +kernel, by decide +kernel, by decide +kernel, by decide +kernel, by decide +kernel, by decide +kernel,
    fun dV kV doc pm an cda ct cc s us hd hl => by subst hd; exact match us, hl with | [_, _], _ => BindsTo.of_eq rfl, fun st h e p h2 env => by cases h; cases h2; rfl, fun st h o m ap as p p' h2 env => by cases h; cases h2; exact ⟨_, rfl⟩⟩
theorem et_BadLine (T : TT K mg base) : PySem.DErr.Txt Pr K ((Yo K ρ0 xn0).C 7) (He.ma K (He.ga K "BadLine") "__init__") ((Yo K ρ0 xn0).fl 7) := et_BadLine0 T
theorem et_BadClaim0 (T : TT K mg base) : PySem.DErr.Txt Pr K (He.ga K "BadClaim") (He.ma K (He.ga K "BadClaim") "__init__") [] :=
  txt_of (d := iniD "BadClaim" 9) (ini_at T.ini 7 rfl) ((ex_of T).er 8 (by decide)) ⟨⟨_, _, _, _, _, _, _, _, _, rfl, .nil⟩, by kernel_rfl, ⟨_, rfl, rfl⟩, rfl, rfl, rfl, by decide +kernel, by decide +kernel, by decide +kernel, by decide +kernel, by decide +kernel, by decide +kernel,
    fun dV kV doc pm an cda ct cc s us hd hl => by subst hd; exact match us, hl with | [_], _ => BindsTo.of_eq rfl, fun st h e p h2 env => by cases h; cases h2; rfl, fun st h o m ap as p p' h2 env => by cases h; cases h2; exact ⟨_, rfl⟩⟩
theorem et_BadClaim (T : TT K mg base) : PySem.DErr.Txt Pr K ((Yo K ρ0 xn0).C 8) (He.ma K (He.ga K "BadClaim") "__init__") ((Yo K ρ0 xn0).fl 8) := et_BadClaim0 T
theorem et_NothingDone0 (T : TT K mg base) : PySem.DErr.Txt Pr K (He.ga K "NothingDone") (He.ma K (He.ga K "NothingDone") "__init__") [] :=
  txt_of (d := iniD "NothingDone" 10) (ini_at T.ini 8 rfl) ((ex_of T).er 9 (by decide)) ⟨⟨_, _, _, _, _, _, _, _, _, rfl, .nil⟩, by kernel_rfl, ⟨_, rfl, rfl⟩, rfl, rfl, rfl, by decide +kernel, by decide +kernel, by decide +kernel, by decide +kernel, by decide +kernel, by decide +kernel,
    fun dV kV doc pm an cda ct cc s us hd hl => by subst hd; exact match us, hl with | [_], _ => BindsTo.of_eq rfl, fun st h e p h2 env => by cases h; cases h2; rfl, fun st h o m ap as p p' h2 env => by cases h; cases h2; exact ⟨_, rfl⟩⟩
theorem et_NothingDone (T : TT K mg base) : PySem.DErr.Txt Pr K ((Yo K ρ0 xn0).C 9) (He.ma K (He.ga K "NothingDone") "__init__") ((Yo K ρ0 xn0).fl 9) := et_NothingDone0 T
/-! a caught error told -/
def refD (c : Nat) (fs : List D) : Option D := match c, fs with
  | 1, [p, q] => some (.tup [.str [66, 97, 100, 80, 97, 114, 116], p, q])
  | 2, [v] => some (.tup [.str [66, 97, 100, 78, 117, 109, 98, 101, 114], v])
  | 3, [v] => some (.tup [.str [85, 110, 107, 110, 111, 119, 110], v])
  | 4, [v] => some (.tup [.str [66, 97, 100, 67, 111, 117, 114, 115, 101], v])
  | 5, [v] => some (.tup [.str [66, 97, 100, 67, 104, 97, 110, 103, 101], v])
  | 6, [v] => some (.tup [.str [66, 97, 100, 84, 101, 120, 116], v])
  | 7, [v] => some (.tup [.str [66, 97, 100, 76, 105, 110, 101], v])
  | 8, [] => some (.tup [.str [66, 97, 100, 67, 108, 97, 105, 109]])
  | 9, [] => some (.tup [.str [78, 111, 116, 104, 105, 110, 103, 68, 111, 110, 101]])
  | _, _ => none
theorem ref_c {c : Nat} {fs : List D} {d : D} (h : refD c fs = some d) : c ∈ excs := by
  unfold refD at h
  split at h <;> first | decide | cases h
theorem ref_pln (c : Nat) (fs : List D) (d : D) (hp : plnL fs = true) (h : refD c fs = some d) : plnD d = true := by
  unfold refD at h
  split at h <;> first | (cases h; simp only [plnL, plnD, Bool.and_true, Bool.true_and, Bool.and_eq_true] at hp ⊢; exact hp) | (cases h; rfl) | cases h
def eqX (k c : Nat) : Option Bool := if c ∈ excs then some (decide (c = k)) else none
def yesX (c : Nat) : Option Bool := if c ∈ excs then some true else none
theorem xk_any (T : TT K mg base) (k : Nat) (hk : k ∈ excs) (c : Nat) (r : Bool) (h : eqX k c = some r) : ExcC K ((Yo K ρ0 xn0).C c) ∧ PySem.W.kitOne K (.ref ((Yo K ρ0 xn0).C c)) (.ref ((Yo K ρ0 xn0).C k)) = some r := by
  unfold eqX at h
  split at h
  · rename_i hc
    cases h
    exact ⟨(excB_ok ((ex_of T).xc c hc)).1, of_decide_eq_true ((ex_of T).kt c hc k hk)⟩
  · cases h
theorem xk_ValueError (T : TT K mg base) (c : Nat) (r : Bool) (h : yesX c = some r) : ExcC K ((Yo K ρ0 xn0).C c) ∧ PySem.W.kitOne K (.ref ((Yo K ρ0 xn0).C c)) (.type "ValueError") = some r := by
  unfold yesX at h
  split at h
  · rename_i hc
    cases h
    exact ⟨(excB_ok ((ex_of T).xc c hc)).1, (ex_of T).kv c hc⟩
  · cases h
theorem xk_DamError (T : TT K mg base) (c : Nat) (r : Bool) (h : yesX c = some r) : ExcC K ((Yo K ρ0 xn0).C c) ∧ PySem.W.kitOne K (.ref ((Yo K ρ0 xn0).C c)) (.ref (He.ga K "DamError")) = some r := by
  unfold yesX at h
  split at h
  · rename_i hc
    cases h
    exact ⟨(excB_ok ((ex_of T).xc c hc)).1, of_decide_eq_true ((ex_of T).kd c hc)⟩
  · cases h
theorem xf_any (T : TT K mg base) {c i : Nat} {f : Str} (hc : c ∈ excs) (hi : (flN c)[i]? = some f) (nd : (flN c).Nodup) : XfC K ((Yo K ρ0 xn0).C c) ∧ PySem.W.findIn K (.ref ((Yo K ρ0 xn0).C c)) f = some none ∧ ((Yo K ρ0 xn0).fl c)[i]? = some f ∧ ((Yo K ρ0 xn0).fl c).Nodup :=
  ⟨(excB_ok ((ex_of T).xc c hc)).2, (ex_of T).nf c hc f (List.mem_of_getElem? hi), hi, nd⟩
theorem xk_BadPart (T : TT K mg base) (c : Nat) (r : Bool) (h : eqX 1 c = some r) : ExcC K ((Yo K ρ0 xn0).C c) ∧ PySem.W.kitOne K (.ref ((Yo K ρ0 xn0).C c)) (.ref (He.ga K "BadPart")) = some r := xk_any (ρ0 := ρ0) (xn0 := xn0) T 1 (by decide) c r h
theorem xk_BadNumber (T : TT K mg base) (c : Nat) (r : Bool) (h : eqX 2 c = some r) : ExcC K ((Yo K ρ0 xn0).C c) ∧ PySem.W.kitOne K (.ref ((Yo K ρ0 xn0).C c)) (.ref (He.ga K "BadNumber")) = some r := xk_any (ρ0 := ρ0) (xn0 := xn0) T 2 (by decide) c r h
theorem xk_Unknown (T : TT K mg base) (c : Nat) (r : Bool) (h : eqX 3 c = some r) : ExcC K ((Yo K ρ0 xn0).C c) ∧ PySem.W.kitOne K (.ref ((Yo K ρ0 xn0).C c)) (.ref (He.ga K "Unknown")) = some r := xk_any (ρ0 := ρ0) (xn0 := xn0) T 3 (by decide) c r h
theorem xk_BadCourse (T : TT K mg base) (c : Nat) (r : Bool) (h : eqX 4 c = some r) : ExcC K ((Yo K ρ0 xn0).C c) ∧ PySem.W.kitOne K (.ref ((Yo K ρ0 xn0).C c)) (.ref (He.ga K "BadCourse")) = some r := xk_any (ρ0 := ρ0) (xn0 := xn0) T 4 (by decide) c r h
theorem xk_BadChange (T : TT K mg base) (c : Nat) (r : Bool) (h : eqX 5 c = some r) : ExcC K ((Yo K ρ0 xn0).C c) ∧ PySem.W.kitOne K (.ref ((Yo K ρ0 xn0).C c)) (.ref (He.ga K "BadChange")) = some r := xk_any (ρ0 := ρ0) (xn0 := xn0) T 5 (by decide) c r h
theorem xk_BadText (T : TT K mg base) (c : Nat) (r : Bool) (h : eqX 6 c = some r) : ExcC K ((Yo K ρ0 xn0).C c) ∧ PySem.W.kitOne K (.ref ((Yo K ρ0 xn0).C c)) (.ref (He.ga K "BadText")) = some r := xk_any (ρ0 := ρ0) (xn0 := xn0) T 6 (by decide) c r h
theorem xk_BadLine (T : TT K mg base) (c : Nat) (r : Bool) (h : eqX 7 c = some r) : ExcC K ((Yo K ρ0 xn0).C c) ∧ PySem.W.kitOne K (.ref ((Yo K ρ0 xn0).C c)) (.ref (He.ga K "BadLine")) = some r := xk_any (ρ0 := ρ0) (xn0 := xn0) T 7 (by decide) c r h
theorem xk_BadClaim (T : TT K mg base) (c : Nat) (r : Bool) (h : eqX 8 c = some r) : ExcC K ((Yo K ρ0 xn0).C c) ∧ PySem.W.kitOne K (.ref ((Yo K ρ0 xn0).C c)) (.ref (He.ga K "BadClaim")) = some r := xk_any (ρ0 := ρ0) (xn0 := xn0) T 8 (by decide) c r h
theorem xk_NothingDone (T : TT K mg base) (c : Nat) (r : Bool) (h : eqX 9 c = some r) : ExcC K ((Yo K ρ0 xn0).C c) ∧ PySem.W.kitOne K (.ref ((Yo K ρ0 xn0).C c)) (.ref (He.ga K "NothingDone")) = some r := xk_any (ρ0 := ρ0) (xn0 := xn0) T 9 (by decide) c r h
def xi_part (c : Nat) : Option Nat := match c with | 1 => some 0 | _ => none
theorem xf_part (T : TT K mg base) (c i : Nat) (h : xi_part c = some i) : XfC K ((Yo K ρ0 xn0).C c) ∧ PySem.W.findIn K (.ref ((Yo K ρ0 xn0).C c)) "part" = some none ∧ ((Yo K ρ0 xn0).fl c)[i]? = some "part" ∧ ((Yo K ρ0 xn0).fl c).Nodup := by
  unfold xi_part at h
  split at h
  · cases h; exact xf_any T (by decide) rfl (by decide +kernel)
  · cases h
def xi_place (c : Nat) : Option Nat := match c with | 1 => some 1 | 4 => some 0 | 5 => some 0 | _ => none
theorem xf_place (T : TT K mg base) (c i : Nat) (h : xi_place c = some i) : XfC K ((Yo K ρ0 xn0).C c) ∧ PySem.W.findIn K (.ref ((Yo K ρ0 xn0).C c)) "place" = some none ∧ ((Yo K ρ0 xn0).fl c)[i]? = some "place" ∧ ((Yo K ρ0 xn0).fl c).Nodup := by
  unfold xi_place at h
  split at h
  · cases h; exact xf_any T (by decide) rfl (by decide +kernel)
  · cases h; exact xf_any T (by decide) rfl (by decide +kernel)
  · cases h; exact xf_any T (by decide) rfl (by decide +kernel)
  · cases h
def xi_value (c : Nat) : Option Nat := match c with | 2 => some 0 | _ => none
theorem xf_value (T : TT K mg base) (c i : Nat) (h : xi_value c = some i) : XfC K ((Yo K ρ0 xn0).C c) ∧ PySem.W.findIn K (.ref ((Yo K ρ0 xn0).C c)) "value" = some none ∧ ((Yo K ρ0 xn0).fl c)[i]? = some "value" ∧ ((Yo K ρ0 xn0).fl c).Nodup := by
  unfold xi_value at h
  split at h
  · cases h; exact xf_any T (by decide) rfl (by decide +kernel)
  · cases h
def xi_name (c : Nat) : Option Nat := match c with | 3 => some 0 | _ => none
theorem xf_name (T : TT K mg base) (c i : Nat) (h : xi_name c = some i) : XfC K ((Yo K ρ0 xn0).C c) ∧ PySem.W.findIn K (.ref ((Yo K ρ0 xn0).C c)) "name" = some none ∧ ((Yo K ρ0 xn0).fl c)[i]? = some "name" ∧ ((Yo K ρ0 xn0).fl c).Nodup := by
  unfold xi_name at h
  split at h
  · cases h; exact xf_any T (by decide) rfl (by decide +kernel)
  · cases h
def xi_line (c : Nat) : Option Nat := match c with | 6 => some 0 | 7 => some 0 | _ => none
theorem xf_line (T : TT K mg base) (c i : Nat) (h : xi_line c = some i) : XfC K ((Yo K ρ0 xn0).C c) ∧ PySem.W.findIn K (.ref ((Yo K ρ0 xn0).C c)) "line" = some none ∧ ((Yo K ρ0 xn0).fl c)[i]? = some "line" ∧ ((Yo K ρ0 xn0).fl c).Nodup := by
  unfold xi_line at h
  split at h
  · cases h; exact xf_any T (by decide) rfl (by decide +kernel)
  · cases h; exact xf_any T (by decide) rfl (by decide +kernel)
  · cases h

def Φ__law_taken : List D → List D → Res D := defD 2 4 (seqS (ifS (tst (opE oGt (opV oIx (rdO 0) (lit (.int 3))) (lit (.int 0)))) (seqS (setS 3 (opE oMod (b1E oInt (opV oIx (rdO 0) (lit (.int 3)))) (rdV 1))) (seqS (setRowS 0 3 (opE oDiv (opV oIx (rdO 0) (lit (.int 3))) (rdV 1))) (retS (rdV 3)))) nxS) (seqS (setRowS 0 1 (opE oAdd (opV oIx (rdO 0) (lit (.int 1))) (lit (.int 1)))) (seqS (ifS (tst (opE oGt (opV oIx (rdO 0) (lit (.int 1))) (b1E oLen (opV oIx (rdO 0) (lit (.int 0)))))) (seqS (setRowS 0 2 (opE oMod (b1E oInt (opE oAdd (opE oMul (opV oIx (rdO 0) (lit (.int 2))) (lit (.int 48271))) (lit (.int 11)))) (lit (.int 2147483647)))) (retS (opE oMod (b1E oInt (opE oDiv (opV oIx (rdO 0) (lit (.int 2))) (lit (.int 7)))) (rdV 1)))) nxS) (seqS (setS 2 (opV oIx (opV oIx (rdO 0) (lit (.int 0))) (opE oSub (opV oIx (rdO 0) (lit (.int 1))) (lit (.int 1))))) (seqS (setRowS 0 2 (opE oMod (b1E oInt (opE oAdd (opE oAdd (opE oMul (opV oIx (rdO 0) (lit (.int 2))) (lit (.int 48271))) (rdV 2)) (lit (.int 11)))) (lit (.int 2147483647)))) (seqS (ifS (tst (opE oGe (rdV 2) (opE oPow (lit (.int 10)) (lit (.int 18))))) (seqS (setRowS 0 3 (opE oDiv (rdV 2) (rdV 1))) (retS (opE oMod (b1E oInt (rdO 2)) (rdV 1)))) nxS) (retS (opE oMod (b1E oInt (opE oAdd (opE oMul (opE oMod (b1E oInt (rdO 2)) (lit (.int 1000003))) (lit (.int 31))) (opE oDiv (opV oIx (rdO 0) (lit (.int 2))) (lit (.int 11))))) (rdV 1)))))))))
theorem g__law_taken (T : TT K mg base) : FnC Pr w K mg base 1 (He.ga K "_law_taken") (Yo K ρ0 xn0) Φ__law_taken := by
  obtain ⟨fd, F⟩ := tdef T.tx 0 rfl
  exact fnc_of (N := ["row", "many", "cell", "found"]) (ps := ["row", "many"]) (k := 0) rfl F ⟨rfl, rfl, rfl, by decide +kernel, rfl, by decide +kernel, by decide +kernel⟩ (F.bindsN fun _ _ _ _ _ _ us hl => match us, hl with | [_, _], _ => rfl) (by decide)
    fun ρ cdv A outer s H E o => (ds_cons (ds_if (t_cmp (k_gt o.toOkc) rfl (e_ix o.toOkc (fun _ _ => rfl) (ds_var (i := 0) rfl (.inl rfl) rfl rfl) (DE.ds de_int)) de_int) (ds_cons (ds_set (i := 3) o.toOkc rfl (.inl rfl) (e_bin (b_mod o.toOkc) (e_toInt o.toOkc rfl (tf T.tx 0 rfl) (DE.ds (e_ix o.toOkc (fun _ _ => rfl) (ds_var (i := 0) rfl (.inl rfl) rfl rfl) (DE.ds de_int))) rfl rfl) (de_var (i := 1) rfl (.inl rfl) rfl rfl)) rfl (.inl rfl)) (ds_cons (ds_stRow (i := 0) (j := 3) o.toOkc rfl (.inl rfl) rfl rfl (e_bin (b_div o.toOkc) (e_ix o.toOkc (fun _ _ => rfl) (ds_var (i := 0) rfl (.inl rfl) rfl rfl) (DE.ds de_int)) (de_var (i := 1) rfl (.inl rfl) rfl rfl)) rfl rfl rfl (fun _ => rfl)) (ds_one (ds_ret (de_var (i := 3) rfl (.inl rfl) rfl rfl))))) ds_nil) (ds_cons (ds_stRow (i := 0) (j := 1) o.toOkc rfl (.inl rfl) rfl rfl (e_bin (b_add o.toOkc) (e_ix o.toOkc (fun _ _ => rfl) (ds_var (i := 0) rfl (.inl rfl) rfl rfl) (DE.ds de_int)) de_int) rfl rfl rfl (fun _ => rfl)) (ds_cons (ds_if (t_cmp (k_gt o.toOkc) rfl (e_ix o.toOkc (fun _ _ => rfl) (ds_var (i := 0) rfl (.inl rfl) rfl rfl) (DE.ds de_int)) (e_len o.toOkc rfl (tf T.tx 1 rfl) (DE.ds (e_ix o.toOkc (fun _ _ => rfl) (ds_var (i := 0) rfl (.inl rfl) rfl rfl) (DE.ds de_int))) rfl rfl)) (ds_cons (ds_stRow (i := 0) (j := 2) o.toOkc rfl (.inl rfl) rfl rfl (e_bin (b_mod o.toOkc) (e_toInt o.toOkc rfl (tf T.tx 0 rfl) (DE.ds (e_bin (b_add o.toOkc) (e_bin (b_mul o.toOkc) (e_ix o.toOkc (fun _ _ => rfl) (ds_var (i := 0) rfl (.inl rfl) rfl rfl) (DE.ds de_int)) de_int) de_int)) rfl rfl) de_int) rfl rfl rfl (fun _ => rfl)) (ds_one (ds_ret (e_bin (b_mod o.toOkc) (e_toInt o.toOkc rfl (tf T.tx 0 rfl) (DE.ds (e_bin (b_div o.toOkc) (e_ix o.toOkc (fun _ _ => rfl) (ds_var (i := 0) rfl (.inl rfl) rfl rfl) (DE.ds de_int)) de_int)) rfl rfl) (de_var (i := 1) rfl (.inl rfl) rfl rfl))))) ds_nil) (ds_cons (ds_set (i := 2) o.toOkc rfl (.inl rfl) (e_ix o.toOkc (fun _ _ => rfl) (DE.ds (e_ix o.toOkc (fun _ _ => rfl) (ds_var (i := 0) rfl (.inl rfl) rfl rfl) (DE.ds de_int))) (DE.ds (e_bin (b_sub o.toOkc) (e_ix o.toOkc (fun _ _ => rfl) (ds_var (i := 0) rfl (.inl rfl) rfl rfl) (DE.ds de_int)) de_int))) rfl (.inl rfl)) (ds_cons (ds_stRow (i := 0) (j := 2) o.toOkc rfl (.inl rfl) rfl rfl (e_bin (b_mod o.toOkc) (e_toInt o.toOkc rfl (tf T.tx 0 rfl) (DE.ds (e_bin (b_add o.toOkc) (e_bin (b_add o.toOkc) (e_bin (b_mul o.toOkc) (e_ix o.toOkc (fun _ _ => rfl) (ds_var (i := 0) rfl (.inl rfl) rfl rfl) (DE.ds de_int)) de_int) (de_var (i := 2) rfl (.inl rfl) rfl rfl)) de_int)) rfl rfl) de_int) rfl rfl rfl (fun _ => rfl)) (ds_cons (ds_if (t_cmp (k_ge o.toOkc) rfl (de_var (i := 2) rfl (.inl rfl) rfl rfl) (e_bin (b_pow o.toOkc) de_int de_int)) (ds_cons (ds_stRow (i := 0) (j := 3) o.toOkc rfl (.inl rfl) rfl rfl (e_bin (b_div o.toOkc) (de_var (i := 2) rfl (.inl rfl) rfl rfl) (de_var (i := 1) rfl (.inl rfl) rfl rfl)) rfl rfl rfl (fun _ => rfl)) (ds_one (ds_ret (e_bin (b_mod o.toOkc) (e_toInt o.toOkc rfl (tf T.tx 0 rfl) (ds_var (i := 2) rfl (.inl rfl) rfl rfl) rfl rfl) (de_var (i := 1) rfl (.inl rfl) rfl rfl))))) ds_nil) (ds_one (ds_ret (e_bin (b_mod o.toOkc) (e_toInt o.toOkc rfl (tf T.tx 0 rfl) (DE.ds (e_bin (b_add o.toOkc) (e_bin (b_mul o.toOkc) (e_bin (b_mod o.toOkc) (e_toInt o.toOkc rfl (tf T.tx 0 rfl) (ds_var (i := 2) rfl (.inl rfl) rfl rfl) rfl rfl) de_int) de_int) (e_bin (b_div o.toOkc) (e_ix o.toOkc (fun _ _ => rfl) (ds_var (i := 0) rfl (.inl rfl) rfl rfl) (DE.ds de_int)) de_int))) rfl rfl) (de_var (i := 1) rfl (.inl rfl) rfl rfl))))))))))
def Φ__law_pick : List D → List D → Res D := defD 2 2 (retS (opV oIx (rdO 1) (callE Φ__law_taken (consA (rdV 0) (consA (b1E oLen (rdO 1)) nilA)))))
theorem g__law_pick (T : TT K mg base) : FnC Pr w K mg base 2 (He.ga K "_law_pick") (Yo K ρ0 xn0) Φ__law_pick := by
  obtain ⟨fd, F⟩ := tdef T.tx 1 rfl
  exact fnc_of (N := ["row", "things"]) (ps := ["row", "things"]) (k := 1) rfl F ⟨rfl, rfl, rfl, by decide +kernel, rfl, by decide +kernel, by decide +kernel⟩ (F.bindsN fun _ _ _ _ _ _ us hl => match us, hl with | [_, _], _ => rfl) (by decide)
    fun ρ cdv A outer s H E o => (ds_one (ds_ret (e_ix o.toOkc (fun _ _ => rfl) (ds_var (i := 1) rfl (.inl rfl) rfl rfl) (DE.ds (de_call o.toOkc ((g__law_taken T).mono (by decide)) (tg T.tx 2 rfl) rfl (da_cons (de_var (i := 0) rfl (.inl rfl) rfl rfl) (da_cons (e_len o.toOkc rfl (tf T.tx 1 rfl) (ds_var (i := 1) rfl (.inl rfl) rfl rfl) rfl rfl) da_nil rfl) rfl) rfl rfl rfl)))))
def Φ__law_same : List D → List D → Res D := defD 2 2 (retS (opE oEq (b1E oReprS (rdO 0)) (b1E oReprS (rdO 1))))
theorem g__law_same (T : TT K mg base) : FnC Pr w K mg base 1 (He.ga K "_law_same") (Yo K ρ0 xn0) Φ__law_same := by
  obtain ⟨fd, F⟩ := tdef T.tx 2 rfl
  exact fnc_of (N := ["found", "due"]) (ps := ["found", "due"]) (k := 0) rfl F ⟨rfl, rfl, rfl, by decide +kernel, rfl, by decide +kernel, by decide +kernel⟩ (F.bindsN fun _ _ _ _ _ _ us hl => match us, hl with | [_, _], _ => rfl) (by decide)
    fun ρ cdv A outer s H E o => (ds_one (ds_ret (e_cmp (k_eq o.toOkc) rfl (e_reprS o.toOkc rfl (tf T.tx 3 rfl) (ds_var (i := 0) rfl (.inl rfl) rfl rfl) rfl rfl) (e_reprS o.toOkc rfl (tf T.tx 3 rfl) (ds_var (i := 1) rfl (.inl rfl) rfl rfl) rfl rfl))))
theorem hot__law_same (T : TT K mg base) : HotF Pr w K mg base 1 (He.ga K "_law_same") (Yo K ρ0 xn0) Φ__law_same := by
  obtain ⟨fd, F⟩ := tdef T.tx 2 rfl
  exact hot_of (N := ["found", "due"]) (ps := ["found", "due"]) (k := 0) rfl rfl F ⟨rfl, rfl, rfl, by decide +kernel, rfl, by decide +kernel, by decide +kernel⟩ (F.bindsN fun _ _ _ _ _ _ us hl => match us, hl with | [_, _], _ => rfl) (by decide)
    fun ρ cdv A outer s H p o => (ds_one (ds_ret (e_cmp (n_eq o) rfl (h_reprS o rfl (tf T.tx 3 rfl) (ds_var (i := 0) rfl (.inl rfl) rfl rfl) rfl rfl) (h_reprS o rfl (tf T.tx 3 rfl) (ds_var (i := 1) rfl (.inl rfl) rfl rfl) rfl rfl))))
def Φ__law_refusal : List D → List D → Res D := defD 1 4 (seqS (setS 1 (mkL (consA (lit (.str [66, 97, 100, 80, 97, 114, 116])) (consA (lit (.str [66, 97, 100, 78, 117, 109, 98, 101, 114])) (consA (lit (.str [85, 110, 107, 110, 111, 119, 110])) (consA (lit (.str [66, 97, 100, 67, 111, 117, 114, 115, 101])) (consA (lit (.str [66, 97, 100, 67, 104, 97, 110, 103, 101])) (consA (lit (.str [66, 97, 100, 84, 101, 120, 116])) (consA (lit (.str [66, 97, 100, 76, 105, 110, 101])) (consA (lit (.str [66, 97, 100, 67, 108, 97, 105, 109])) (consA (lit (.str [78, 111, 116, 104, 105, 110, 103, 68, 111, 110, 101])) nilA))))))))))) (seqS (setS 2 (mkL (consA (isE (isXo (eqX 1)) (rdV 0)) (consA (isE (isXo (eqX 2)) (rdV 0)) (consA (isE (isXo (eqX 3)) (rdV 0)) (consA (isE (isXo (eqX 4)) (rdV 0)) (consA (isE (isXo (eqX 5)) (rdV 0)) (consA (isE (isXo (eqX 6)) (rdV 0)) (consA (isE (isXo (eqX 7)) (rdV 0)) (consA (isE (isXo (eqX 8)) (rdV 0)) (consA (isE (isXo (eqX 9)) (rdV 0)) nilA))))))))))) (seqS (ifS (orT (tst (opE oNe (countE (rdV 2) (lit (.bl true))) (lit (.int 1)))) (notT (tst (isE (isXo yesX) (rdV 0))))) (retS (mkT (consA (lit (.str [111, 116, 104, 101, 114])) nilA))) nxS) (seqS (setS 3 (opV oIx (rdO 1) (indexBE (rdV 2) (lit (.bl true))))) (seqS (ifS (tst (opE oEq (rdV 3) (lit (.str [66, 97, 100, 80, 97, 114, 116])))) (retS (mkT (consA (rdV 3) (consA (xfoE xi_part (rdV 0)) (consA (xfoE xi_place (rdV 0)) nilA))))) nxS) (seqS (ifS (tst (opE oEq (rdV 3) (lit (.str [66, 97, 100, 78, 117, 109, 98, 101, 114])))) (retS (mkT (consA (rdV 3) (consA (xfoE xi_value (rdV 0)) nilA)))) nxS) (seqS (ifS (tst (opE oEq (rdV 3) (lit (.str [85, 110, 107, 110, 111, 119, 110])))) (retS (mkT (consA (rdV 3) (consA (xfoE xi_name (rdV 0)) nilA)))) nxS) (seqS (ifS (tst (opV oIn (rdO 3) (mkT (consA (lit (.str [66, 97, 100, 84, 101, 120, 116])) (consA (lit (.str [66, 97, 100, 76, 105, 110, 101])) nilA))))) (retS (mkT (consA (rdV 3) (consA (xfoE xi_line (rdV 0)) nilA)))) nxS) (seqS (ifS (tst (opV oIn (rdO 3) (mkT (consA (lit (.str [66, 97, 100, 67, 108, 97, 105, 109])) (consA (lit (.str [78, 111, 116, 104, 105, 110, 103, 68, 111, 110, 101])) nilA))))) (retS (mkT (consA (rdV 3) nilA))) nxS) (retS (mkT (consA (rdV 3) (consA (xfoE xi_place (rdV 0)) nilA)))))))))))))
theorem g__law_refusal (T : TT K mg base) : FnC Pr w K mg base 1 (He.ga K "_law_refusal") (Yo K ρ0 xn0) Φ__law_refusal := by
  obtain ⟨fd, F⟩ := tdef T.tx 3 rfl
  exact fnc_of (N := ["e", "kinds", "marks", "name"]) (ps := ["e"]) (k := 0) rfl F ⟨rfl, rfl, rfl, by decide +kernel, rfl, by decide +kernel, by decide +kernel⟩ (F.bindsN fun _ _ _ _ _ _ us hl => match us, hl with | [_], _ => rfl) (by decide)
    fun ρ cdv A outer s H E o => (ds_cons (ds_set (i := 1) o.toOkc rfl (.inl rfl) (de_lst (da_cons de_str (da_cons de_str (da_cons de_str (da_cons de_str (da_cons de_str (da_cons de_str (da_cons de_str (da_cons de_str (da_cons de_str da_nil rfl) rfl) rfl) rfl) rfl) rfl) rfl) rfl) rfl)) rfl (.inl rfl)) (ds_cons (ds_set (i := 2) o.toOkc rfl (.inl rfl) (de_lst (da_cons (de_isXo (f := (eqX 1)) (cw := .ref (He.ga K "BadPart")) (cv := .ref (He.ga K "BadPart")) rfl (o.toOkc).K rfl (tf T.tx 4 rfl) (pe_glob rfl (tg T.tx 5 rfl) rfl rfl) (fun _ h => h) (fun c r h => xk_BadPart (ρ0 := 0) (xn0 := fun _ => True) T c r h) (de_var (i := 0) rfl (.inl rfl) rfl rfl) rfl rfl rfl) (da_cons (de_isXo (f := (eqX 2)) (cw := .ref (He.ga K "BadNumber")) (cv := .ref (He.ga K "BadNumber")) rfl (o.toOkc).K rfl (tf T.tx 4 rfl) (pe_glob rfl (tg T.tx 6 rfl) rfl rfl) (fun _ h => h) (fun c r h => xk_BadNumber (ρ0 := 0) (xn0 := fun _ => True) T c r h) (de_var (i := 0) rfl (.inl rfl) rfl rfl) rfl rfl rfl) (da_cons (de_isXo (f := (eqX 3)) (cw := .ref (He.ga K "Unknown")) (cv := .ref (He.ga K "Unknown")) rfl (o.toOkc).K rfl (tf T.tx 4 rfl) (pe_glob rfl (tg T.tx 7 rfl) rfl rfl) (fun _ h => h) (fun c r h => xk_Unknown (ρ0 := 0) (xn0 := fun _ => True) T c r h) (de_var (i := 0) rfl (.inl rfl) rfl rfl) rfl rfl rfl) (da_cons (de_isXo (f := (eqX 4)) (cw := .ref (He.ga K "BadCourse")) (cv := .ref (He.ga K "BadCourse")) rfl (o.toOkc).K rfl (tf T.tx 4 rfl) (pe_glob rfl (tg T.tx 8 rfl) rfl rfl) (fun _ h => h) (fun c r h => xk_BadCourse (ρ0 := 0) (xn0 := fun _ => True) T c r h) (de_var (i := 0) rfl (.inl rfl) rfl rfl) rfl rfl rfl) (da_cons (de_isXo (f := (eqX 5)) (cw := .ref (He.ga K "BadChange")) (cv := .ref (He.ga K "BadChange")) rfl (o.toOkc).K rfl (tf T.tx 4 rfl) (pe_glob rfl (tg T.tx 9 rfl) rfl rfl) (fun _ h => h) (fun c r h => xk_BadChange (ρ0 := 0) (xn0 := fun _ => True) T c r h) (de_var (i := 0) rfl (.inl rfl) rfl rfl) rfl rfl rfl) (da_cons (de_isXo (f := (eqX 6)) (cw := .ref (He.ga K "BadText")) (cv := .ref (He.ga K "BadText")) rfl (o.toOkc).K rfl (tf T.tx 4 rfl) (pe_glob rfl (tg T.tx 10 rfl) rfl rfl) (fun _ h => h) (fun c r h => xk_BadText (ρ0 := 0) (xn0 := fun _ => True) T c r h) (de_var (i := 0) rfl (.inl rfl) rfl rfl) rfl rfl rfl) (da_cons (de_isXo (f := (eqX 7)) (cw := .ref (He.ga K "BadLine")) (cv := .ref (He.ga K "BadLine")) rfl (o.toOkc).K rfl (tf T.tx 4 rfl) (pe_glob rfl (tg T.tx 11 rfl) rfl rfl) (fun _ h => h) (fun c r h => xk_BadLine (ρ0 := 0) (xn0 := fun _ => True) T c r h) (de_var (i := 0) rfl (.inl rfl) rfl rfl) rfl rfl rfl) (da_cons (de_isXo (f := (eqX 8)) (cw := .ref (He.ga K "BadClaim")) (cv := .ref (He.ga K "BadClaim")) rfl (o.toOkc).K rfl (tf T.tx 4 rfl) (pe_glob rfl (tg T.tx 12 rfl) rfl rfl) (fun _ h => h) (fun c r h => xk_BadClaim (ρ0 := 0) (xn0 := fun _ => True) T c r h) (de_var (i := 0) rfl (.inl rfl) rfl rfl) rfl rfl rfl) (da_cons (de_isXo (f := (eqX 9)) (cw := .ref (He.ga K "NothingDone")) (cv := .ref (He.ga K "NothingDone")) rfl (o.toOkc).K rfl (tf T.tx 4 rfl) (pe_glob rfl (tg T.tx 13 rfl) rfl rfl) (fun _ h => h) (fun c r h => xk_NothingDone (ρ0 := 0) (xn0 := fun _ => True) T c r h) (de_var (i := 0) rfl (.inl rfl) rfl rfl) rfl rfl rfl) da_nil rfl) rfl) rfl) rfl) rfl) rfl) rfl) rfl) rfl)) rfl (.inl rfl)) (ds_cons (ds_if (DW.pt (dw_or (t_cmp (k_ne o.toOkc) rfl (de_count (o.toOkc).K rfl (de_var (i := 2) rfl (.inl rfl) rfl rfl) de_bl ⟨rfl, rfl, rfl, rfl, rfl⟩) de_int) (dw_or1 (dt_not (dt_val (de_isXo (f := yesX) (cw := .ty "ValueError") (cv := .type "ValueError") rfl (o.toOkc).K rfl (tf T.tx 4 rfl) (pe_bltn (u := .type "ValueError") rfl (tf T.tx 14 rfl) (by decide +kernel) rfl (by decide +kernel) (by decide +kernel)) (fun _ h => h) (fun c r h => xk_ValueError (ρ0 := 0) (xn0 := fun _ => True) T c r h) (de_var (i := 0) rfl (.inl rfl) rfl rfl) rfl rfl rfl) (fun _ => rfl)))))) (ds_one (ds_ret (de_tup (da_cons de_str da_nil rfl)))) ds_nil) (ds_cons (ds_set (i := 3) o.toOkc rfl (.inl rfl) (e_ix o.toOkc (fun _ _ => rfl) (ds_var (i := 1) rfl (.inl rfl) rfl rfl) (DE.ds (de_indexB (o.toOkc).K rfl (de_var (i := 2) rfl (.inl rfl) rfl rfl) de_bl ⟨rfl, rfl, rfl, rfl, rfl⟩))) rfl (.inl rfl)) (ds_cons (ds_if (t_cmp (k_eq o.toOkc) rfl (de_var (i := 3) rfl (.inl rfl) rfl rfl) de_str) (ds_one (ds_ret (de_tup (da_cons (de_var (i := 3) rfl (.inl rfl) rfl rfl) (da_cons (de_xfo (o.toOkc).K (de_var (i := 0) rfl (.inl rfl) rfl rfl) (fun c i h => xf_part (ρ0 := 0) (xn0 := fun _ => True) T c i h) rfl) (da_cons (de_xfo (o.toOkc).K (de_var (i := 0) rfl (.inl rfl) rfl rfl) (fun c i h => xf_place (ρ0 := 0) (xn0 := fun _ => True) T c i h) rfl) da_nil rfl) rfl) rfl)))) ds_nil) (ds_cons (ds_if (t_cmp (k_eq o.toOkc) rfl (de_var (i := 3) rfl (.inl rfl) rfl rfl) de_str) (ds_one (ds_ret (de_tup (da_cons (de_var (i := 3) rfl (.inl rfl) rfl rfl) (da_cons (de_xfo (o.toOkc).K (de_var (i := 0) rfl (.inl rfl) rfl rfl) (fun c i h => xf_value (ρ0 := 0) (xn0 := fun _ => True) T c i h) rfl) da_nil rfl) rfl)))) ds_nil) (ds_cons (ds_if (t_cmp (k_eq o.toOkc) rfl (de_var (i := 3) rfl (.inl rfl) rfl rfl) de_str) (ds_one (ds_ret (de_tup (da_cons (de_var (i := 3) rfl (.inl rfl) rfl rfl) (da_cons (de_xfo (o.toOkc).K (de_var (i := 0) rfl (.inl rfl) rfl rfl) (fun c i h => xf_name (ρ0 := 0) (xn0 := fun _ => True) T c i h) rfl) da_nil rfl) rfl)))) ds_nil) (ds_cons (ds_if (t_in o.toOkc rfl (ds_var (i := 3) rfl (.inl rfl) rfl rfl) (DE.ds (de_tup (da_cons de_str (da_cons de_str da_nil rfl) rfl)))) (ds_one (ds_ret (de_tup (da_cons (de_var (i := 3) rfl (.inl rfl) rfl rfl) (da_cons (de_xfo (o.toOkc).K (de_var (i := 0) rfl (.inl rfl) rfl rfl) (fun c i h => xf_line (ρ0 := 0) (xn0 := fun _ => True) T c i h) rfl) da_nil rfl) rfl)))) ds_nil) (ds_cons (ds_if (t_in o.toOkc rfl (ds_var (i := 3) rfl (.inl rfl) rfl rfl) (DE.ds (de_tup (da_cons de_str (da_cons de_str da_nil rfl) rfl)))) (ds_one (ds_ret (de_tup (da_cons (de_var (i := 3) rfl (.inl rfl) rfl rfl) da_nil rfl)))) ds_nil) (ds_one (ds_ret (de_tup (da_cons (de_var (i := 3) rfl (.inl rfl) rfl rfl) (da_cons (de_xfo (o.toOkc).K (de_var (i := 0) rfl (.inl rfl) rfl rfl) (fun c i h => xf_place (ρ0 := 0) (xn0 := fun _ => True) T c i h) rfl) da_nil rfl) rfl)))))))))))))
def φ_ref : DEnv → List D → SR := (seqS (setS 1 (mkL (consA (lit (.str [66, 97, 100, 80, 97, 114, 116])) (consA (lit (.str [66, 97, 100, 78, 117, 109, 98, 101, 114])) (consA (lit (.str [85, 110, 107, 110, 111, 119, 110])) (consA (lit (.str [66, 97, 100, 67, 111, 117, 114, 115, 101])) (consA (lit (.str [66, 97, 100, 67, 104, 97, 110, 103, 101])) (consA (lit (.str [66, 97, 100, 84, 101, 120, 116])) (consA (lit (.str [66, 97, 100, 76, 105, 110, 101])) (consA (lit (.str [66, 97, 100, 67, 108, 97, 105, 109])) (consA (lit (.str [78, 111, 116, 104, 105, 110, 103, 68, 111, 110, 101])) nilA))))))))))) (seqS (setS 2 (mkL (consA (isE (isX (eqX 1)) (rdV 0)) (consA (isE (isX (eqX 2)) (rdV 0)) (consA (isE (isX (eqX 3)) (rdV 0)) (consA (isE (isX (eqX 4)) (rdV 0)) (consA (isE (isX (eqX 5)) (rdV 0)) (consA (isE (isX (eqX 6)) (rdV 0)) (consA (isE (isX (eqX 7)) (rdV 0)) (consA (isE (isX (eqX 8)) (rdV 0)) (consA (isE (isX (eqX 9)) (rdV 0)) nilA))))))))))) (seqS (ifS (orT (tst (opE oNe (countE (rdV 2) (lit (.bl true))) (lit (.int 1)))) (notT (tst (isE (isX yesX) (rdV 0))))) (retS (mkT (consA (lit (.str [111, 116, 104, 101, 114])) nilA))) nxS) (seqS (setS 3 (opV oIx (rdO 1) (indexBE (rdV 2) (lit (.bl true))))) (seqS (ifS (tst (opE oEq (rdV 3) (lit (.str [66, 97, 100, 80, 97, 114, 116])))) (retS (mkT (consA (rdV 3) (consA (xfE xi_part (rdV 0)) (consA (xfE xi_place (rdV 0)) nilA))))) nxS) (seqS (ifS (tst (opE oEq (rdV 3) (lit (.str [66, 97, 100, 78, 117, 109, 98, 101, 114])))) (retS (mkT (consA (rdV 3) (consA (xfE xi_value (rdV 0)) nilA)))) nxS) (seqS (ifS (tst (opE oEq (rdV 3) (lit (.str [85, 110, 107, 110, 111, 119, 110])))) (retS (mkT (consA (rdV 3) (consA (xfE xi_name (rdV 0)) nilA)))) nxS) (seqS (ifS (tst (opV oIn (rdO 3) (mkT (consA (lit (.str [66, 97, 100, 84, 101, 120, 116])) (consA (lit (.str [66, 97, 100, 76, 105, 110, 101])) nilA))))) (retS (mkT (consA (rdV 3) (consA (xfE xi_line (rdV 0)) nilA)))) nxS) (seqS (ifS (tst (opV oIn (rdO 3) (mkT (consA (lit (.str [66, 97, 100, 67, 108, 97, 105, 109])) (consA (lit (.str [78, 111, 116, 104, 105, 110, 103, 68, 111, 110, 101])) nilA))))) (retS (mkT (consA (rdV 3) nilA))) nxS) (retS (mkT (consA (rdV 3) (consA (xfE xi_place (rdV 0)) nilA)))))))))))))
theorem ref_run : ∀ c fs d st, refD c fs = some d → ∃ env, φ_ref (Sl.val (.exn c fs) :: List.replicate (4 - 1) Sl.un) st = .rt d env st := by
  intro c fs d st h
  unfold refD at h
  split at h <;> first | (cases h; exact ⟨_, rfl⟩) | cases h
theorem ref_T (T : TT K mg base) : RefC Pr w K mg base 1 (He.ga K "_law_refusal") (Yo K ρ0 xn0) refD := by
  obtain ⟨fd, F⟩ := tdef T.tx 3 rfl
  exact refc_of (N := ["e", "kinds", "marks", "name"]) (x1 := "e") (k := 0) (φ := φ_ref) rfl rfl ref_pln F ⟨rfl, rfl, rfl, by decide +kernel, rfl, by decide +kernel, by decide +kernel⟩ (F.bindsN fun _ _ _ _ _ _ us hl => match us, hl with | [_], _ => rfl) ref_run
    fun ρ dx c cdv A outer s H p o => (ds_cons (hs_set (i := 1) o rfl (.inl rfl) (de_lst (da_cons de_str (da_cons de_str (da_cons de_str (da_cons de_str (da_cons de_str (da_cons de_str (da_cons de_str (da_cons de_str (da_cons de_str da_nil rfl) rfl) rfl) rfl) rfl) rfl) rfl) rfl) rfl)) rfl (.inl rfl)) (ds_cons (hs_set (i := 2) o rfl (.inl rfl) (de_lst (da_cons (de_isX (f := eqX 1) (cw := .ref (He.ga K "BadPart")) (cv := .ref (He.ga K "BadPart")) o rfl rfl (tf T.tx 4 rfl) (pe_glob rfl (tg T.tx 5 rfl) rfl rfl) (fun _ h => h) (fun c r h => xk_BadPart (ρ0 := 0) (xn0 := fun _ => True) T c r h) (de_var (i := 0) rfl (.inl rfl) rfl rfl) rfl rfl rfl) (da_cons (de_isX (f := eqX 2) (cw := .ref (He.ga K "BadNumber")) (cv := .ref (He.ga K "BadNumber")) o rfl rfl (tf T.tx 4 rfl) (pe_glob rfl (tg T.tx 6 rfl) rfl rfl) (fun _ h => h) (fun c r h => xk_BadNumber (ρ0 := 0) (xn0 := fun _ => True) T c r h) (de_var (i := 0) rfl (.inl rfl) rfl rfl) rfl rfl rfl) (da_cons (de_isX (f := eqX 3) (cw := .ref (He.ga K "Unknown")) (cv := .ref (He.ga K "Unknown")) o rfl rfl (tf T.tx 4 rfl) (pe_glob rfl (tg T.tx 7 rfl) rfl rfl) (fun _ h => h) (fun c r h => xk_Unknown (ρ0 := 0) (xn0 := fun _ => True) T c r h) (de_var (i := 0) rfl (.inl rfl) rfl rfl) rfl rfl rfl) (da_cons (de_isX (f := eqX 4) (cw := .ref (He.ga K "BadCourse")) (cv := .ref (He.ga K "BadCourse")) o rfl rfl (tf T.tx 4 rfl) (pe_glob rfl (tg T.tx 8 rfl) rfl rfl) (fun _ h => h) (fun c r h => xk_BadCourse (ρ0 := 0) (xn0 := fun _ => True) T c r h) (de_var (i := 0) rfl (.inl rfl) rfl rfl) rfl rfl rfl) (da_cons (de_isX (f := eqX 5) (cw := .ref (He.ga K "BadChange")) (cv := .ref (He.ga K "BadChange")) o rfl rfl (tf T.tx 4 rfl) (pe_glob rfl (tg T.tx 9 rfl) rfl rfl) (fun _ h => h) (fun c r h => xk_BadChange (ρ0 := 0) (xn0 := fun _ => True) T c r h) (de_var (i := 0) rfl (.inl rfl) rfl rfl) rfl rfl rfl) (da_cons (de_isX (f := eqX 6) (cw := .ref (He.ga K "BadText")) (cv := .ref (He.ga K "BadText")) o rfl rfl (tf T.tx 4 rfl) (pe_glob rfl (tg T.tx 10 rfl) rfl rfl) (fun _ h => h) (fun c r h => xk_BadText (ρ0 := 0) (xn0 := fun _ => True) T c r h) (de_var (i := 0) rfl (.inl rfl) rfl rfl) rfl rfl rfl) (da_cons (de_isX (f := eqX 7) (cw := .ref (He.ga K "BadLine")) (cv := .ref (He.ga K "BadLine")) o rfl rfl (tf T.tx 4 rfl) (pe_glob rfl (tg T.tx 11 rfl) rfl rfl) (fun _ h => h) (fun c r h => xk_BadLine (ρ0 := 0) (xn0 := fun _ => True) T c r h) (de_var (i := 0) rfl (.inl rfl) rfl rfl) rfl rfl rfl) (da_cons (de_isX (f := eqX 8) (cw := .ref (He.ga K "BadClaim")) (cv := .ref (He.ga K "BadClaim")) o rfl rfl (tf T.tx 4 rfl) (pe_glob rfl (tg T.tx 12 rfl) rfl rfl) (fun _ h => h) (fun c r h => xk_BadClaim (ρ0 := 0) (xn0 := fun _ => True) T c r h) (de_var (i := 0) rfl (.inl rfl) rfl rfl) rfl rfl rfl) (da_cons (de_isX (f := eqX 9) (cw := .ref (He.ga K "NothingDone")) (cv := .ref (He.ga K "NothingDone")) o rfl rfl (tf T.tx 4 rfl) (pe_glob rfl (tg T.tx 13 rfl) rfl rfl) (fun _ h => h) (fun c r h => xk_NothingDone (ρ0 := 0) (xn0 := fun _ => True) T c r h) (de_var (i := 0) rfl (.inl rfl) rfl rfl) rfl rfl rfl) da_nil rfl) rfl) rfl) rfl) rfl) rfl) rfl) rfl) rfl)) rfl (.inl rfl)) (ds_cons (ds_if (DW.pt (dw_or (t_cmp (h_ne o) rfl (de_count (o).K rfl (de_var (i := 2) rfl (.inl rfl) rfl rfl) de_bl ⟨rfl, rfl, rfl, rfl, rfl⟩) de_int) (dw_or1 (dt_not (dt_val (de_isX (f := yesX) (cw := .ty "ValueError") (cv := .type "ValueError") o rfl rfl (tf T.tx 4 rfl) (pe_bltn (u := .type "ValueError") rfl (tf T.tx 14 rfl) (by decide +kernel) rfl (by decide +kernel) (by decide +kernel)) (fun _ h => h) (fun c r h => xk_ValueError (ρ0 := 0) (xn0 := fun _ => True) T c r h) (de_var (i := 0) rfl (.inl rfl) rfl rfl) rfl rfl rfl) (fun _ => rfl)))))) (ds_one (ds_ret (de_tup (da_cons de_str da_nil rfl)))) ds_nil) (ds_cons (hs_set (i := 3) o rfl (.inl rfl) (h_ix o (fun _ _ => rfl) (ds_var (i := 1) rfl (.inl rfl) rfl rfl) (DE.ds (de_indexB (o).K rfl (de_var (i := 2) rfl (.inl rfl) rfl rfl) de_bl ⟨rfl, rfl, rfl, rfl, rfl⟩))) rfl (.inl rfl)) (ds_cons (ds_if (t_cmp (h_eq o) rfl (de_var (i := 3) rfl (.inl rfl) rfl rfl) de_str) (ds_one (ds_ret (de_tup (da_cons (de_var (i := 3) rfl (.inl rfl) rfl rfl) (da_cons (de_xf o (de_var (i := 0) rfl (.inl rfl) rfl rfl) (fun c i h => xf_part (ρ0 := 0) (xn0 := fun _ => True) T c i h) rfl) (da_cons (de_xf o (de_var (i := 0) rfl (.inl rfl) rfl rfl) (fun c i h => xf_place (ρ0 := 0) (xn0 := fun _ => True) T c i h) rfl) da_nil rfl) rfl) rfl)))) ds_nil) (ds_cons (ds_if (t_cmp (h_eq o) rfl (de_var (i := 3) rfl (.inl rfl) rfl rfl) de_str) (ds_one (ds_ret (de_tup (da_cons (de_var (i := 3) rfl (.inl rfl) rfl rfl) (da_cons (de_xf o (de_var (i := 0) rfl (.inl rfl) rfl rfl) (fun c i h => xf_value (ρ0 := 0) (xn0 := fun _ => True) T c i h) rfl) da_nil rfl) rfl)))) ds_nil) (ds_cons (ds_if (t_cmp (h_eq o) rfl (de_var (i := 3) rfl (.inl rfl) rfl rfl) de_str) (ds_one (ds_ret (de_tup (da_cons (de_var (i := 3) rfl (.inl rfl) rfl rfl) (da_cons (de_xf o (de_var (i := 0) rfl (.inl rfl) rfl rfl) (fun c i h => xf_name (ρ0 := 0) (xn0 := fun _ => True) T c i h) rfl) da_nil rfl) rfl)))) ds_nil) (ds_cons (ds_if (h_in o rfl (ds_var (i := 3) rfl (.inl rfl) rfl rfl) (DE.ds (de_tup (da_cons de_str (da_cons de_str da_nil rfl) rfl)))) (ds_one (ds_ret (de_tup (da_cons (de_var (i := 3) rfl (.inl rfl) rfl rfl) (da_cons (de_xf o (de_var (i := 0) rfl (.inl rfl) rfl rfl) (fun c i h => xf_line (ρ0 := 0) (xn0 := fun _ => True) T c i h) rfl) da_nil rfl) rfl)))) ds_nil) (ds_cons (ds_if (h_in o rfl (ds_var (i := 3) rfl (.inl rfl) rfl rfl) (DE.ds (de_tup (da_cons de_str (da_cons de_str da_nil rfl) rfl)))) (ds_one (ds_ret (de_tup (da_cons (de_var (i := 3) rfl (.inl rfl) rfl rfl) da_nil rfl)))) ds_nil) (ds_one (ds_ret (de_tup (da_cons (de_var (i := 3) rfl (.inl rfl) rfl rfl) (da_cons (de_xf o (de_var (i := 0) rfl (.inl rfl) rfl rfl) (fun c i h => xf_place (ρ0 := 0) (xn0 := fun _ => True) T c i h) rfl) da_nil rfl) rfl)))))))))))))
def f1 : DEnv → List D → SR := (setS 2 (callE Φ__law_pick (consA (rdV 1) (consA (mkL (consA (lit .non) (consA (lit (.bl true)) (consA (lit (.int 0)) (consA (lit (.int 7)) (consA (opE oPow (lit (.int 10)) (lit (.int 40))) (consA (lit (.str [97, 110, 110])) (consA (mkT (consA (lit (.int 1)) (consA (lit (.int 2)) nilA))) (consA (mkL (consA (lit (.int 1)) nilA)) (consA (negE (lit (.int 3))) (consA (lit (.str [])) nilA))))))))))) nilA))))
def f2 : DEnv → List D → SR := (setS 3 (mkL (consA (mkXE 1 2 (consA (lit (.str [98, 101, 108, 111, 119])) (consA (rdV 2) nilA))) (consA (mkXE 2 1 (consA (rdV 2) nilA)) (consA (mkXE 3 1 (consA (rdV 2) nilA)) (consA (mkXE 4 1 (consA (rdV 2) nilA)) (consA (mkXE 5 1 (consA (rdV 2) nilA)) (consA (mkXE 6 1 (consA (rdV 2) nilA)) (consA (mkXE 7 1 (consA (rdV 2) nilA)) nilA)))))))))
def f3 : DEnv → List D → SR := (setS 4 (mkL (consA (xfoE xi_place (opV oIx (rdO 3) (lit (.int 0)))) (consA (xfoE xi_value (opV oIx (rdO 3) (lit (.int 1)))) (consA (xfoE xi_name (opV oIx (rdO 3) (lit (.int 2)))) (consA (xfoE xi_place (opV oIx (rdO 3) (lit (.int 3)))) (consA (xfoE xi_place (opV oIx (rdO 3) (lit (.int 4)))) (consA (xfoE xi_line (opV oIx (rdO 3) (lit (.int 5)))) (consA (xfoE xi_line (opV oIx (rdO 3) (lit (.int 6)))) nilA)))))))))
def f4 : DEnv → List D → SR := (ifS (orT (tst (opE oNe (lcE [5] (seqI (rdV 4)) (gnD 5) (notT (tst (callE Φ__law_same (consA (rdV 5) (consA (rdV 2) nilA))))) (rdV 5)) (mkL nilA))) (tst (opE oNe (xfoE xi_part (opV oIx (rdO 3) (lit (.int 0)))) (lit (.str [98, 101, 108, 111, 119]))))) (retS (lit (.bl false))) nxS)
def φ_it : DEnv → List D → Res D := (opE oAdd (rdV 3) (mkL (consA (mkXE 8 0 nilA) (consA (mkXE 9 0 nilA) nilA))))
def f_if : DEnv → List D → SR := (ifS (orT (notT (tst (isE (isXo yesX) (rdV 5)))) (orT (notT (tst (isE (isXo yesX) (rdV 5)))) (tst (opE oEq (callE Φ__law_refusal (consA (rdV 5) nilA)) (mkT (consA (lit (.str [111, 116, 104, 101, 114])) nilA)))))) (retS (lit (.bl false))) nxS)
def φ_su : DEnv → List D → SR := (ifS (notT (tst (hotE Φ__law_same (consA (refE 6 refD) (consA (refE 5 refD) nilA))))) (retS (lit (.bl false))) nxS)
theorem b_law {fd : FuncData} (F : FunD K "law" "law" (defArgs (top 16)) (defBody (top 16)) (defScope (top 16)) [] [] (He.ga K "law") fd) (s : Shared) (u : Value) : BindsTo s fd ⟨[u], []⟩ [("script", u)] :=
  FunD.bindsA (ps := ["script"]) F (fun _ _ _ _ _ _ us hl => match us, hl with | [_], _ => rfl) s [u] rfl
def lawI : Nat := 4
def suiteB : List Stmt := match (defBody (top 16)).getD 5 (.Pass ⟨0, 0, 0, 0⟩) with
  | .For _ _ lb _ _ => (match lb.getD 1 (.Pass ⟨0, 0, 0, 0⟩) with
    | .Try _ [.ExceptHandler _ _ sb _] _ _ _ => sb
    | _ => [])
  | _ => []
theorem suite_T (T : TT K mg base) {ρ : Nat} {cdv : Value} {A : Around} {outer : List Env} {s : Shared} {H : Hp} {E : XK} (o : Oks (cxOf (L2.CX Pr w) Pr w K mg base ["script", "row", "value", "made", "fields", "one", "e"] "law" (defScope (top 16)) (He.ga K "law") cdv A outer s H E) (zL0 (Yo K 0 (fun _ => True)) ρ s.heap.objs.size E) 3) {a : Addr} {oe : Obj} {d : Option Addr} {c : Nat} {pn : List (Addr × Obj)}
    (hz : Zc (.ref ((Yo K 0 (fun _ => True)).C c)) d oe) (hf : ∃ vs, oe.data = .fields vs) : DSs ((cxOf (L2.CX Pr w) Pr w K mg base ["script", "row", "value", "made", "fields", "one", "e"] "law" (defScope (top 16)) (He.ga K "law") cdv A outer s H E).suite a ((a, oe) :: pn)) (zSu { Yo K 0 (fun _ => True) with xn := fun a => s.heap.objs.size ≤ a } ρ a d c) suiteB φ_su := by
  have hr := o.room
  have hgd := o.gd
  exact (ds_one (ds_if (dt_not (dt_val (de_hotCall (k := 1) (hot__law_same T) (hr.mono (by decide)) hgd rfl (tg T.tx 17 rfl) rfl (da_cons (de_hotRef (i := 6) (k := 1) (ref_T T) (hr.mono (by decide)) hgd hz hf rfl (tg T.tx 18 rfl) rfl rfl (.inl rfl) rfl rfl) (da_cons (de_hotRef (i := 5) (k := 1) (ref_T T) (hr.mono (by decide)) hgd hz hf rfl (tg T.tx 18 rfl) rfl rfl (.inl rfl) rfl rfl) da_nil rfl) rfl) rfl rfl) (fun _ => rfl))) (ds_one (ds_ret de_bl)) ds_nil))
/-! ### the plain law -/
def chk (d : D) : Bool := okD DP d && (toPy DP d).showable && decide ((toPy DP d).shown.length ≤ SZ)
def Shw (d : D) : Prop := ∃ l, (∀ st, oReprS st d = some (.str l)) ∧ okD DP (.str l) = true
theorem cp_okS (d : D) (h : okD DP d = true) : okD DP (.str (reprD d)) = true := by
  have := cp_shown DP d h
  show (reprD d).all (fun c => decide (c < 1114112)) = true
  exact List.all_eq_true.mpr fun c hc => decide_eq_true (this c hc)
theorem shw_of (d : D) (hd : (match d with | .non => true | .bl _ => true | .int _ => true | .str _ => true | .tup _ => true | .lst _ => true | _ => false) = true) (h : chk d = true) : Shw d := by
  unfold chk at h
  have h0 := h
  rw [Bool.and_eq_true, Bool.and_eq_true] at h
  obtain ⟨⟨h1, h2⟩, h3⟩ := h
  have h3 := of_decide_eq_true h3
  refine ⟨reprD d, fun st => ?_, cp_okS d h1⟩
  cases d with
  | non => rfl
  | bl b => rfl
  | int i =>
    show (if i.natAbs.log2 < 1920 then some (D.str (reprD (.int i))) else none) = _
    rw [if_pos]
    simpa [toPy, PyData.showable] using h2
  | str l =>
    show (if (reprText (S l)).length ≤ SZ then some (D.str (reprD (.str l))) else none) = _
    rw [if_pos]
    have e : (toPy DP (.str l)).shown = reprText (S l) := PyData.shown_str _
    rw [e] at h3
    exact h3
  | tup l =>
    show (if (okD DP (.tup l) && (toPy DP (.tup l)).showable && decide ((toPy DP (.tup l)).shown.length ≤ SZ)) = true then some (D.str (reprD (.tup l))) else none) = _
    rw [if_pos h0]
  | lst l =>
    show (if (okD DP (.lst l) && (toPy DP (.lst l)).showable && decide ((toPy DP (.lst l)).shown.length ≤ SZ)) = true then some (D.str (reprD (.lst l))) else none) = _
    rw [if_pos h0]
  | _ => cases hd
theorem same_law {d : D} {st : List D} (h : Shw d) : Φ__law_same [d, d] st = .ok (.bl true) st := by
  obtain ⟨l, h1, h2⟩ := h
  refine Eq.trans (defD_run (env := [.val d, .val d]) rfl rfl) ?_
  rw [val_ret (d := .bl true) (st1 := st)]
  refine op_ok (st1 := st) (st2 := st) (d := .str l) (e := .str l) ?_ ?_ (same_str h2)
  · exact b1_ok (d := d) rfl (h1 st)
  · exact b1_ok (d := d) rfl (h1 st)
def VALS : List D := [.non, .bl true, .int 0, .int 7, .int 10000000000000000000000000000000000000000, .str [97, 110, 110], .tup [.int 1, .int 2], .lst [.int 1], .int (-3), .str []]
theorem vals_cases {P : D → Prop} (h : ∀ d ∈ VALS, P d) {v : D} (hv : v ∈ VALS) : P v := h v hv
def CASES : List (Nat × (D → List D)) := [(1, fun v => [.str [98, 101, 108, 111, 119], v]), (2, fun v => [v]), (3, fun v => [v]), (4, fun v => [v]), (5, fun v => [v]), (6, fun v => [v]), (7, fun v => [v]), (8, fun _ => []), (9, fun _ => [])]
def LLv (v : D) : List (Nat × List D) := CASES.map fun p => (p.1, p.2 v)
theorem vals_all : (VALS.all fun v => chk v && (match v with | .non => true | .bl _ => true | .int _ => true | .str _ => true | .tup _ => true | .lst _ => true | _ => false) && nxoD v && plnD v) = true := by decide +kernel
theorem vals_shw {v : D} (hv : v ∈ VALS) : Shw v ∧ nxoD v = true ∧ plnD v = true := by
  have := List.all_eq_true.mp vals_all v hv
  rw [Bool.and_eq_true, Bool.and_eq_true, Bool.and_eq_true] at this
  exact ⟨shw_of v this.1.1.2 this.1.1.1, this.1.2, this.2⟩
theorem refs_all : (VALS.all fun v => (LLv v).all fun p => decide (p.1 ∈ excs) && (nxoL p.2 && plnL p.2) && (match refD p.1 p.2 with | some (.tup ds) => chk (.tup ds) && plnD (.tup ds) | _ => false)) = true := by decide +kernel
theorem refs_ok {v : D} (hv : v ∈ VALS) {p : Nat × List D} (hp : p ∈ LLv v) : p.1 ∈ excs ∧ nxoL p.2 = true ∧ plnL p.2 = true ∧ ∃ ds, refD p.1 p.2 = some (.tup ds) ∧ Shw (.tup ds) ∧ plnD (.tup ds) = true := by
  have := List.all_eq_true.mp (List.all_eq_true.mp refs_all v hv) p hp
  rw [Bool.and_eq_true, Bool.and_eq_true, Bool.and_eq_true] at this
  obtain ⟨⟨h1, h2, h3⟩, h4⟩ := this
  refine ⟨of_decide_eq_true h1, h2, h3, ?_⟩
  cases hr : refD p.1 p.2 with
  | none => rw [hr] at h4; cases h4
  | some d =>
    rw [hr] at h4
    cases d <;> first | (cases h4; done) | skip
    rename_i ds
    dsimp only at h4
    rw [Bool.and_eq_true] at h4
    exact ⟨ds, rfl, shw_of _ rfl h4.1, h4.2⟩
open Classical in
noncomputable def valOf (env : DEnv) : D := if h : ∃ v, v ∈ VALS ∧ env[2]? = some (.val v) then h.choose else .non
theorem valOf_mem (env : DEnv) : valOf env ∈ VALS := by
  unfold valOf
  split
  · rename_i h; exact h.choose_spec.1
  · exact List.mem_cons_self
theorem valOf_eq {env : DEnv} {v : D} (hv : v ∈ VALS) (h : env[2]? = some (.val v)) : valOf env = v := by
  unfold valOf
  have e : ∃ v, v ∈ VALS ∧ env[2]? = some (.val v) := ⟨v, hv, h⟩
  rw [dif_pos e]
  have h3 := h.symm.trans e.choose_spec.2
  injection h3 with h3
  injection h3 with h3
  exact h3.symm
noncomputable def LL (env : DEnv) (_ : List D) : List (Nat × List D) := LLv (valOf env)
def SS (_ : DEnv) (st : List D) : List D := if (nxoL st && plnL st) = true then st else []
def RR (env : DEnv) (st : List D) : Prop := ∃ env1 st1, f1 env st = .nx env1 st1 ∧ ∃ env2 st2, f2 env1 st1 = .nx env2 st2 ∧ ∃ env3 st3, f3 env2 st2 = .nx env3 st3 ∧ ∃ env4 st4, f4 env3 st3 = .nx env4 st4 ∧ (env4.length = 7 ∧ φ_it env4 st4 = .ok (.lst ((LL env4 st4).map fun p => .exo p.1 p.2)) (SS env4 st4))
theorem hst (env : DEnv) (st : List D) : nxoL (SS env st) = true ∧ plnL (SS env st) = true := by
  unfold SS
  split
  · rename_i h; rw [Bool.and_eq_true] at h; exact h
  · exact ⟨rfl, rfl⟩
theorem LL_pair (env : DEnv) (st : List D) : (LL env st).Pairwise fun p q => p.1 ∈ excs ∧ q.1 ∈ excs ∧ p.1 ≠ q.1 := by
  unfold LL LLv
  rw [List.pairwise_map]
  simp only [CASES, List.pairwise_cons, List.mem_cons, List.not_mem_nil, excs, or_false, forall_eq_or_imp, forall_eq, List.Pairwise.nil, and_true]
  simp
theorem hdi (T : TT K mg base) (env : DEnv) (st : List D) : (LL env st).Pairwise fun p q => (Yo K 0 (fun _ => True)).C p.1 ≠ (Yo K 0 (fun _ => True)).C q.1 :=
  (LL_pair env st).imp fun h => (ex_of T).ne _ h.1 _ h.2.1 h.2.2
/-! #### the drawn value -/
def StOk (ns : List Int) (st : List D) : Prop := ∃ a b c : Int, st = [.scr (iL ns), .int a, .int b, .int c] ∧ 0 ≤ a
theorem row_set {i j : Nat} {φ : DEnv → List D → Res D} {env : DEnv} {d : D} {st st1 : List D} {g : DEnv → List D → SR} (h : φ env st = .ok d st1) (he : env[i]? = some (.val .row)) (hj : j < st1.length) : seqS (setRowS i j φ) g env st = g env (st1.set j d) := by
  rw [seqS_s, setRowS_s, h]
  simp only [ofR_ok, he]
  rw [if_pos hj]
  rfl
theorem pow18 : opE oPow (lit (.int 10)) (lit (.int 18)) = fun _ st => .ok (.int 1000000000000000000) st := by
  funext env st
  rfl
section
variable {ns : List Int} {st : List D}
theorem taken_eq {m : Int} (hs : StOk ns st) (hm : 0 < m ∧ m ≤ 1000000) : ∃ v st1, Φ__law_taken [.row, .int m] st = .ok (.int v) st1 ∧ 0 ≤ v ∧ v < m ∧ StOk ns st1 := by
  obtain ⟨a, b, c, rfl, ha⟩ := hs
  have hm0 : m ≠ 0 := by omega
  by_cases hc : 0 < c
  · refine ⟨c % m, [.scr (iL ns), .int a, .int b, .int (c / m)], ?_, Int.emod_nonneg _ hm0, Int.emod_lt_of_pos _ hm.1, a, b, c / m, rfl, ha⟩
    refine Eq.trans (defD_run (env := [.val .row, .val (.int m), .un, .un]) rfl rfl) ?_
    rw [seq_if_t (st1 := [.scr (iL ns), .int a, .int b, .int c]) (by simp [hc])]
    rw [seq_set (d := .int (c % m)) (st1 := [.scr (iL ns), .int a, .int b, .int c]) (by simp [oMod_i hm.1])]
    simp only [List.set_cons_succ, List.set_cons_zero]
    rw [row_set (d := .int (c / m)) (st1 := [.scr (iL ns), .int a, .int b, .int c]) (by simp [oDiv_i (show 0 < m ∧ m < 1073741824 by omega)]) rfl (by simp)]
    rfl
  · have e0 : Φ__law_taken [.row, .int m] [.scr (iL ns), .int a, .int b, .int c] = Φ__law_taken [.row, .int m] [.scr (iL ns), .int a, .int b, .int c] := rfl
    by_cases hl : (ns.length : Int) < a + 1
    · refine ⟨((b * 48271 + 11) % 2147483647) / 7 % m, [.scr (iL ns), .int (a + 1), .int ((b * 48271 + 11) % 2147483647), .int c], ?_, Int.emod_nonneg _ hm0, Int.emod_lt_of_pos _ hm.1, a + 1, _, c, rfl, by omega⟩
      refine Eq.trans (defD_run (env := [.val .row, .val (.int m), .un, .un]) rfl rfl) ?_
      rw [seq_if_f (st1 := [.scr (iL ns), .int a, .int b, .int c]) (by simp [hc])]
      rw [row_set (d := .int (a + 1)) (st1 := [.scr (iL ns), .int a, .int b, .int c]) (by simp) rfl (by simp)]
      simp only [List.set_cons_succ, List.set_cons_zero]
      rw [seq_if_t (st1 := [.scr (iL ns), .int (a + 1), .int b, .int c]) (by simp [hl])]
      rw [row_set (d := .int ((b * 48271 + 11) % 2147483647)) (st1 := [.scr (iL ns), .int (a + 1), .int b, .int c]) (by simp [oMul_i (a := b) (b := 48271) (by omega), oMod_i]) rfl (by simp)]
      simp only [List.set_cons_succ, List.set_cons_zero]
      rw [ret_ok (d := .int (((b * 48271 + 11) % 2147483647) / 7 % m)) (st1 := [.scr (iL ns), .int (a + 1), .int ((b * 48271 + 11) % 2147483647), .int c]) (by simp [oDiv_i, oMod_i hm.1])]
      rfl
    · obtain ⟨cell, hcell⟩ : ∃ cell, ns[a.toNat]? = some cell := ⟨_, List.getElem?_eq_getElem (by omega)⟩
      have hix : atI (iL ns) (a + 1 - 1) = some (.int cell) := by
        rw [Int.add_sub_cancel, DL.ix_int ha, iL_get, hcell]
        rfl
      have hix2 : atI (iL ns) a = some (.int cell) := by
        rw [DL.ix_int ha, iL_get, hcell]
        rfl
      by_cases hb : 1000000000000000000 ≤ cell
      · refine ⟨cell % m, [.scr (iL ns), .int (a + 1), .int ((b * 48271 + cell + 11) % 2147483647), .int (cell / m)], ?_, Int.emod_nonneg _ hm0, Int.emod_lt_of_pos _ hm.1, a + 1, _, cell / m, rfl, by omega⟩
        refine Eq.trans (defD_run (env := [.val .row, .val (.int m), .un, .un]) rfl rfl) ?_
        rw [seq_if_f (st1 := [.scr (iL ns), .int a, .int b, .int c]) (by simp [hc])]
        rw [row_set (d := .int (a + 1)) (st1 := [.scr (iL ns), .int a, .int b, .int c]) (by simp) rfl (by simp)]
        simp only [List.set_cons_succ, List.set_cons_zero]
        rw [seq_if_f (st1 := [.scr (iL ns), .int (a + 1), .int b, .int c]) (by simp [hl])]
        rw [seq_set (d := .int cell) (st1 := [.scr (iL ns), .int (a + 1), .int b, .int c]) (by simp [hix, hix2])]
        simp only [List.set_cons_succ, List.set_cons_zero]
        rw [row_set (d := .int ((b * 48271 + cell + 11) % 2147483647)) (st1 := [.scr (iL ns), .int (a + 1), .int b, .int c]) (by simp [oMul_i (a := b) (b := 48271) (by omega), oMod_i]) rfl (by simp)]
        simp only [List.set_cons_succ, List.set_cons_zero]
        rw [seq_if_t (st1 := [.scr (iL ns), .int (a + 1), .int ((b * 48271 + cell + 11) % 2147483647), .int c]) (by simp only [tst_s, opE_s, pow18]; simp [hb])]
        rw [row_set (d := .int (cell / m)) (st1 := [.scr (iL ns), .int (a + 1), .int ((b * 48271 + cell + 11) % 2147483647), .int c]) (by simp [oDiv_i (show 0 < m ∧ m < 1073741824 by omega)]) rfl (by simp)]
        simp only [List.set_cons_succ, List.set_cons_zero]
        rw [ret_ok (d := .int (cell % m)) (st1 := [.scr (iL ns), .int (a + 1), .int ((b * 48271 + cell + 11) % 2147483647), .int (cell / m)]) (by simp [oMod_i hm.1])]
        rfl
      · refine ⟨(cell % 1000003 * 31 + ((b * 48271 + cell + 11) % 2147483647) / 11) % m, [.scr (iL ns), .int (a + 1), .int ((b * 48271 + cell + 11) % 2147483647), .int c], ?_, Int.emod_nonneg _ hm0, Int.emod_lt_of_pos _ hm.1, a + 1, _, c, rfl, by omega⟩
        refine Eq.trans (defD_run (env := [.val .row, .val (.int m), .un, .un]) rfl rfl) ?_
        rw [seq_if_f (st1 := [.scr (iL ns), .int a, .int b, .int c]) (by simp [hc])]
        rw [row_set (d := .int (a + 1)) (st1 := [.scr (iL ns), .int a, .int b, .int c]) (by simp) rfl (by simp)]
        simp only [List.set_cons_succ, List.set_cons_zero]
        rw [seq_if_f (st1 := [.scr (iL ns), .int (a + 1), .int b, .int c]) (by simp [hl])]
        rw [seq_set (d := .int cell) (st1 := [.scr (iL ns), .int (a + 1), .int b, .int c]) (by simp [hix, hix2])]
        simp only [List.set_cons_succ, List.set_cons_zero]
        rw [row_set (d := .int ((b * 48271 + cell + 11) % 2147483647)) (st1 := [.scr (iL ns), .int (a + 1), .int b, .int c]) (by simp [oMul_i (a := b) (b := 48271) (by omega), oMod_i]) rfl (by simp)]
        simp only [List.set_cons_succ, List.set_cons_zero]
        rw [seq_if_f (st1 := [.scr (iL ns), .int (a + 1), .int ((b * 48271 + cell + 11) % 2147483647), .int c]) (by simp only [tst_s, opE_s, pow18]; simp [hb])]
        rw [val_ret (d := .int ((cell % 1000003 * 31 + ((b * 48271 + cell + 11) % 2147483647) / 11) % m)) (st1 := [.scr (iL ns), .int (a + 1), .int ((b * 48271 + cell + 11) % 2147483647), .int c])]
        have h31 : oMul (.int (cell % 1000003)) (.int 31) = some (.int (cell % 1000003 * 31)) := oMul_i (by omega)
        simp [oMod_i (a := cell) (b := 1000003) (by decide), h31, oDiv_i (b := 11) (by decide), oMod_i hm.1]
theorem pick_eq {ds : List D} (hs : StOk ns st) (hl : 1 ≤ ds.length ∧ ds.length ≤ 1000) : ∃ d st1, Φ__law_pick [.row, .lst ds] st = .ok d st1 ∧ d ∈ ds ∧ StOk ns st1 := by
  obtain ⟨v, st1, h1, h2, h3, h4⟩ := taken_eq (m := ds.length) hs (by omega)
  have hv : v.toNat < ds.length := by omega
  refine ⟨ds[v.toNat], st1, ?_, List.getElem_mem hv, h4⟩
  refine Eq.trans (defD_run (env := [.val .row, .val (.lst ds)]) rfl rfl) ?_
  rw [val_ret]
  have e : atI ds v = some ds[v.toNat] := by rw [DL.ix_int h2]; exact List.getElem?_eq_getElem hv
  simp [h1, e]
end
theorem iL_plain : ∀ (ns : List Int), nxoL (iL ns) = true ∧ plnL (iL ns) = true
  | [] => ⟨rfl, rfl⟩
  | n :: ns => by
    rw [iL_cons, nxoL, plnL, (iL_plain ns).1, (iL_plain ns).2]
    exact ⟨rfl, rfl⟩
theorem stok_ss {ns : List Int} {env : DEnv} {st : List D} (h : StOk ns st) : SS env st = st := by
  obtain ⟨a, b, c, rfl, _⟩ := h
  unfold SS
  rw [if_pos]
  simp only [nxoL, plnL, nxoD, plnD, (iL_plain ns).1, (iL_plain ns).2, Bool.and_self]
/-- the nine errors, made of a value -/
def E0 (ns : List Int) : DEnv := .val (.scr (iL ns)) :: .val .row :: List.replicate (7 - 2) Sl.un
def E1 (ns : List Int) (v : D) : DEnv := [.val (.scr (iL ns)), .val .row, .val v, .un, .un, .un, .un]
def M7 (v : D) : D := .lst [.exo 1 [.str [98, 101, 108, 111, 119], v], .exo 2 [v], .exo 3 [v], .exo 4 [v], .exo 5 [v], .exo 6 [v], .exo 7 [v]]
def E2 (ns : List Int) (v : D) : DEnv := [.val (.scr (iL ns)), .val .row, .val v, .val (M7 v), .un, .un, .un]
def E3 (ns : List Int) (v : D) : DEnv := [.val (.scr (iL ns)), .val .row, .val v, .val (M7 v), .val (.lst [v, v, v, v, v, v, v]), .un, .un]
theorem pow40 : opE oPow (lit (.int 10)) (lit (.int 40)) = fun _ st => .ok (.int 10000000000000000000000000000000000000000) st := by
  funext env st
  rfl
theorem f1_ok {ns : List Int} {st : List D} (h : StOk ns st) : ∃ v st1, v ∈ VALS ∧ StOk ns st1 ∧ f1 (E0 ns) st = .nx (E1 ns v) st1 := by
  obtain ⟨d, st1, h1, h2, h3⟩ := pick_eq (ds := VALS) h (by decide)
  refine ⟨d, st1, h2, h3, ?_⟩
  unfold f1
  rw [set_ok (d := d) (st1 := st1)]
  · rfl
  · rw [call2 (d := .row) (st1 := st) (e := .lst VALS) (st2 := st) rfl]
    · exact h1
    · rw [pow40]; rfl
theorem f2_ok {ns : List Int} {st : List D} {v : D} : f2 (E1 ns v) st = .nx (E2 ns v) st := by rfl
theorem f3_ok {ns : List Int} {st : List D} {v : D} : f3 (E2 ns v) st = .nx (E3 ns v) st := by rfl
theorem f4_ok {ns : List Int} {st : List D} {v : D} (hv : v ∈ VALS) : f4 (E3 ns v) st = .nx (E3 ns v) st := by
  unfold f4
  rw [if_f (st1 := st)]
  · rfl
  · rw [or_f (st1 := st)]
    · rfl
    · refine tst_ok (op_ok (st1 := st) (st2 := st) (d := .lst []) (e := .lst []) (lc_none (env1 := E3 ns v) (fun x : D => x) (xs := List.replicate 7 v) rfl rfl (fun x hx => ?_) (by rw [List.length_replicate]; decide)) rfl rfl)
      rw [List.eq_of_mem_replicate hx]
      refine ⟨_, rfl, ?_⟩
      rw [not_ok (b := true) (st1 := st)]
      · rfl
      · refine tst_ok ?_
        rw [call2 (d := v) (st1 := st) (e := v) (st2 := st) rfl rfl]
        exact same_law (vals_shw hv).1
theorem it_ok {ns : List Int} {st : List D} {v : D} (hv : v ∈ VALS) (hs : StOk ns st) : (E3 ns v).length = 7 ∧ φ_it (E3 ns v) st = .ok (.lst ((LL (E3 ns v) st).map fun p => .exo p.1 p.2)) (SS (E3 ns v) st) := by
  refine ⟨rfl, ?_⟩
  rw [stok_ss hs]
  unfold LL
  rw [valOf_eq hv rfl]
  rfl
theorem law_R (ns : List Int) (_ : ns.length ≤ 63) : RR (.val (.scr (ns.map D.int)) :: .val .row :: List.replicate (7 - 2) Sl.un) [.scr (ns.map D.int), .int 0, .int 7000, .int 0] := by
  obtain ⟨v, st1, hv, hs, h1⟩ := f1_ok (ns := ns) (st := [.scr (iL ns), .int 0, .int 7000, .int 0]) ⟨0, 7000, 0, rfl, by decide⟩
  exact ⟨_, _, h1, _, _, f2_ok, _, _, f3_ok, _, _, f4_ok hv, it_ok hv hs⟩
/-! #### one error -/
theorem refusal_ok {v : D} {p : Nat × List D} (hp : p ∈ LLv v) {st : List D} : ∃ d, refD p.1 p.2 = some d ∧ Φ__law_refusal [.exo p.1 p.2] st = .ok d st := by
  obtain ⟨q, hq, rfl⟩ := List.mem_map.mp hp
  have : (p : Nat × (D → List D)) → p ∈ CASES → ∃ d, refD p.1 (p.2 v) = some d ∧ Φ__law_refusal [.exo p.1 (p.2 v)] st = .ok d st := by
    intro p hp
    simp only [CASES, List.mem_cons, List.not_mem_nil, or_false] at hp
    rcases hp with rfl | rfl | rfl | rfl | rfl | rfl | rfl | rfl | rfl <;> exact ⟨_, rfl, by rfl⟩
  exact this q hq
theorem oth_ne {c : Nat} {fs : List D} {d : D} (h : refD c fs = some d) (hk : okD DP d = true) : oEq d (.tup [.str [111, 116, 104, 101, 114]]) = some (.bl false) := by
  unfold oEq
  rw [hk, if_pos (show (true && okD DP (.tup [.str [111, 116, 104, 101, 114]])) = true from rfl)]
  unfold refD at h
  split at h <;> first | (cases h; rfl) | cases h
theorem h1 (env : DEnv) (st : List D) (p : Nat × List D) (hp : p ∈ LL env st) : f_if ((List.replicate 7 Sl.un).set 5 (.val (.exo p.1 p.2))) (SS env st) = .nx ((List.replicate 7 Sl.un).set 5 (.val (.exo p.1 p.2))) (SS env st) := by
  obtain ⟨hx, hn, hpl, ds, hr, hsh, hpd⟩ := refs_ok (valOf_mem env) hp
  obtain ⟨d, hr2, hd⟩ := refusal_ok hp (st := SS env st)
  rw [hr] at hr2
  cases hr2
  have yes : yesX p.1 = some true := by unfold yesX; rw [if_pos hx]
  have rd : rdV 5 ((List.replicate 7 Sl.un).set 5 (.val (.exo p.1 p.2))) (SS env st) = .ok (.exo p.1 p.2) (SS env st) := rfl
  have is : notT (tst (isE (isXo yesX) (rdV 5))) ((List.replicate 7 Sl.un).set 5 (.val (.exo p.1 p.2))) (SS env st) = .ok false (SS env st) := by
    rw [not_ok (b := true) (st1 := SS env st)]
    · rfl
    · refine tst_ok ?_
      rw [isE_s, rd, bind_ok]
      show (match yesX p.1 with | some b => Res.ok (D.bl b) (SS env st) | none => Res.bad) = _
      rw [yes]
  unfold f_if
  rw [if_f (st1 := SS env st)]
  · rfl
  · rw [or_f is, or_f is]
    refine tst_ok (op_ok (st1 := SS env st) (st2 := SS env st) (d := .tup ds) (e := .tup [.str [111, 116, 104, 101, 114]]) ?_ rfl (oth_ne hr ?_))
    · rw [call1 rd]
      exact hd
    · have := List.all_eq_true.mp (List.all_eq_true.mp refs_all _ (valOf_mem env)) p hp
      rw [hr] at this
      dsimp only at this
      rw [Bool.and_eq_true, Bool.and_eq_true, chk] at this
      have := this.2
      rw [Bool.and_eq_true, Bool.and_eq_true, Bool.and_eq_true] at this
      exact this.1.1.1
theorem h2 (env : DEnv) (st : List D) (p : Nat × List D) (hp : p ∈ LL env st) : φ_su (((List.replicate 7 Sl.un).set 5 (.val (.exn p.1 p.2))).set 6 (.val (.exn p.1 p.2))) (SS env st) = .nx (((List.replicate 7 Sl.un).set 5 (.val (.exn p.1 p.2))).set 6 (.val (.exn p.1 p.2))) (SS env st) := by
  obtain ⟨hx, hn, hpl, ds, hr, hsh, hpd⟩ := refs_ok (valOf_mem env) hp
  obtain ⟨_, hps⟩ := hst env st
  have r (i : Nat) (hi : (((List.replicate 7 Sl.un).set 5 (.val (.exn p.1 p.2))).set 6 (.val (.exn p.1 p.2)))[i]? = some (.val (.exn p.1 p.2))) : refE i refD (((List.replicate 7 Sl.un).set 5 (.val (.exn p.1 p.2))).set 6 (.val (.exn p.1 p.2))) (SS env st) = .ok (.tup ds) (SS env st) := by
    unfold refE
    rw [hi]
    dsimp only
    rw [hpl, hps, if_pos (show (true && true) = true from rfl), hr]
    rfl
  unfold φ_su
  rw [if_f (st1 := SS env st)]
  · rfl
  · rw [not_ok (b := true) (st1 := SS env st)]
    · rfl
    · refine tst_ok ?_
      unfold hotE
      rw [cons_ok (r 6 rfl) (cons_ok (r 5 rfl) rfl)]
      rw [bind_ok]
      simp only [plnL, hpd, hps, Bool.and_self, if_true]
      rw [same_law hsh]
      simp only [plnD, hps, Bool.and_self, if_true]
theorem hcl {X : Cx} (hK : X.K = K) (T : TT K mg base) (env : DEnv) (st : List D) (p : Nat × List D) (hp : p ∈ LL env st) : Raises X (.ref ((Yo K 0 (fun _ => True)).C p.1)) ∧ PySem.W.exmOne X.K (.ref ((Yo K 0 (fun _ => True)).C p.1)) (.ref (He.ga K "DamError")) = some true ∧ nxoL p.2 = true ∧ plnL p.2 = true := by
  obtain ⟨hx, hn, hpl, _⟩ := refs_ok (valOf_mem env) hp
  have ox := oexB_ok (He.ba ((ex_of T).er _ hx)).1
  subst hK
  exact ⟨raises_own ox.exC ox.tyC, (ex_of T).xm _ hx, hn, hpl⟩

theorem g_law {fd : FuncData} (F : FunD K "law" "law" (defArgs (top 16)) (defBody (top 16)) (defScope (top 16)) [] [] (He.ga K "law") fd) (T : TT K mg base) : FnG Pr w K mg base (L2.CX Pr w) 4 (He.ga K "law") fd ["script"] (spLaw0 K [] (fun ns => ns.length ≤ 63)) :=
  fng_law0 (Y := Yo K 0 (fun _ => True)) (N := ["script", "row", "value", "made", "fields", "one", "e"]) (k := 3) (R := RR) (PP := fun ns => ns.length ≤ 63) rfl rfl rfl F ⟨rfl, rfl, rfl, by decide +kernel, rfl, by decide +kernel, by decide +kernel⟩ rfl rfl (.inl rfl) (.inl rfl) rfl rfl rfl (fun env _ => rfl) law_R
    fun ρ cdv A outer s H E o => dsx_cons rfl (ds_set (i := 2) o.toOkc rfl (.inr rfl) (de_call o.toOkc ((g__law_pick T).mono (by decide)) (tg T.tx 15 rfl) rfl (da_cons (de_var (i := 1) rfl (.inl rfl) rfl rfl) (da_cons (de_lst (da_cons de_non (da_cons de_bl (da_cons de_int (da_cons de_int (da_cons (e_bin (b_pow o.toOkc) de_int de_int) (da_cons de_str (da_cons (de_tup (da_cons de_int (da_cons de_int da_nil rfl) rfl)) (da_cons (de_lst (da_cons de_int da_nil rfl)) (da_cons (de_neg de_int) (da_cons de_str da_nil rfl) rfl) rfl) rfl) rfl) rfl) rfl) rfl) rfl) rfl)) da_nil rfl) rfl) rfl rfl rfl) rfl (.inl rfl)) (dsx_cons rfl (ds_set (i := 3) o.toOkc rfl (.inl rfl) (de_lst (da_cons (de_mkX (c := 1) (n := 2) o.toOkc (by decide) (fun _ h => h) (et_BadPart T) rfl (by decide) (tf T.tx 16 rfl) (tg T.tx 5 rfl) rfl (da_cons de_str (da_cons (de_var (i := 2) rfl (.inr (.inl rfl)) rfl rfl) da_nil rfl) rfl) rfl rfl rfl) (da_cons (de_mkX (c := 2) (n := 1) o.toOkc (by decide) (fun _ h => h) (et_BadNumber T) rfl (by decide) (tf T.tx 16 rfl) (tg T.tx 6 rfl) rfl (da_cons (de_var (i := 2) rfl (.inr (.inl rfl)) rfl rfl) da_nil rfl) rfl rfl rfl) (da_cons (de_mkX (c := 3) (n := 1) o.toOkc (by decide) (fun _ h => h) (et_Unknown T) rfl (by decide) (tf T.tx 16 rfl) (tg T.tx 7 rfl) rfl (da_cons (de_var (i := 2) rfl (.inr (.inl rfl)) rfl rfl) da_nil rfl) rfl rfl rfl) (da_cons (de_mkX (c := 4) (n := 1) o.toOkc (by decide) (fun _ h => h) (et_BadCourse T) rfl (by decide) (tf T.tx 16 rfl) (tg T.tx 8 rfl) rfl (da_cons (de_var (i := 2) rfl (.inr (.inl rfl)) rfl rfl) da_nil rfl) rfl rfl rfl) (da_cons (de_mkX (c := 5) (n := 1) o.toOkc (by decide) (fun _ h => h) (et_BadChange T) rfl (by decide) (tf T.tx 16 rfl) (tg T.tx 9 rfl) rfl (da_cons (de_var (i := 2) rfl (.inr (.inl rfl)) rfl rfl) da_nil rfl) rfl rfl rfl) (da_cons (de_mkX (c := 6) (n := 1) o.toOkc (by decide) (fun _ h => h) (et_BadText T) rfl (by decide) (tf T.tx 16 rfl) (tg T.tx 10 rfl) rfl (da_cons (de_var (i := 2) rfl (.inr (.inl rfl)) rfl rfl) da_nil rfl) rfl rfl rfl) (da_cons (de_mkX (c := 7) (n := 1) o.toOkc (by decide) (fun _ h => h) (et_BadLine T) rfl (by decide) (tf T.tx 16 rfl) (tg T.tx 11 rfl) rfl (da_cons (de_var (i := 2) rfl (.inr (.inl rfl)) rfl rfl) da_nil rfl) rfl rfl rfl) da_nil rfl) rfl) rfl) rfl) rfl) rfl) rfl)) rfl (.inl rfl)) (dsx_cons rfl (ds_set (i := 4) o.toOkc rfl (.inl rfl) (de_lst (da_cons (de_xfo (o.toOkc).K (e_ix o.toOkc (fun _ _ => rfl) (ds_var (i := 3) rfl (.inl rfl) rfl rfl) (DE.ds de_int)) (fun c i h => xf_place (ρ0 := 0) (xn0 := fun _ => True) T c i h) rfl) (da_cons (de_xfo (o.toOkc).K (e_ix o.toOkc (fun _ _ => rfl) (ds_var (i := 3) rfl (.inl rfl) rfl rfl) (DE.ds de_int)) (fun c i h => xf_value (ρ0 := 0) (xn0 := fun _ => True) T c i h) rfl) (da_cons (de_xfo (o.toOkc).K (e_ix o.toOkc (fun _ _ => rfl) (ds_var (i := 3) rfl (.inl rfl) rfl rfl) (DE.ds de_int)) (fun c i h => xf_name (ρ0 := 0) (xn0 := fun _ => True) T c i h) rfl) (da_cons (de_xfo (o.toOkc).K (e_ix o.toOkc (fun _ _ => rfl) (ds_var (i := 3) rfl (.inl rfl) rfl rfl) (DE.ds de_int)) (fun c i h => xf_place (ρ0 := 0) (xn0 := fun _ => True) T c i h) rfl) (da_cons (de_xfo (o.toOkc).K (e_ix o.toOkc (fun _ _ => rfl) (ds_var (i := 3) rfl (.inl rfl) rfl rfl) (DE.ds de_int)) (fun c i h => xf_place (ρ0 := 0) (xn0 := fun _ => True) T c i h) rfl) (da_cons (de_xfo (o.toOkc).K (e_ix o.toOkc (fun _ _ => rfl) (ds_var (i := 3) rfl (.inl rfl) rfl rfl) (DE.ds de_int)) (fun c i h => xf_line (ρ0 := 0) (xn0 := fun _ => True) T c i h) rfl) (da_cons (de_xfo (o.toOkc).K (e_ix o.toOkc (fun _ _ => rfl) (ds_var (i := 3) rfl (.inl rfl) rfl rfl) (DE.ds de_int)) (fun c i h => xf_line (ρ0 := 0) (xn0 := fun _ => True) T c i h) rfl) da_nil rfl) rfl) rfl) rfl) rfl) rfl) rfl)) rfl (.inl rfl)) (dsx_cons rfl (ds_if (DW.pt (dw_or (t_cmp (k_ne o.toOkc) rfl (de_lc (own := [("one", 5)]) o.toOkc (di_seq (o.toOkc).K (de_var (i := 4) rfl (.inl rfl) rfl rfl)) (blk_by (by kernel_rfl)) (fun _ => (dg_name (i := 5) (vs := [5]) (okc_blk o.toOkc) rfl (.inl rfl) (.inr rfl) (by decide))) (fun _ => (dts_one (dt_not (dt_val (de_call (okc_blk o.toOkc) ((g__law_same T).mono (by decide)) (tg T.tx 17 rfl) rfl (da_cons (de_var (i := 5) rfl (.inl rfl) rfl rfl) (da_cons (de_var (i := 2) rfl (.inr (.inl rfl)) rfl rfl) da_nil rfl) rfl) rfl rfl rfl) (fun _ => rfl))))) (fun _ => (de_var (i := 5) rfl (.inl rfl) rfl rfl)) (fun _ => rfl)) (de_lst da_nil)) (dw_or1 (t_cmp (k_ne o.toOkc) rfl (de_xfo (o.toOkc).K (e_ix o.toOkc (fun _ _ => rfl) (ds_var (i := 3) rfl (.inl rfl) rfl rfl) (DE.ds de_int)) (fun c i h => xf_part (ρ0 := 0) (xn0 := fun _ => True) T c i h) rfl) de_str)))) (ds_one (ds_ret de_bl)) ds_nil)
      (by
        refine dsx_tail (Y0 := Yo K 0 (fun _ => True)) (ρ := ρ) (E := E) (x := "DamError") (n := "e") (y := "one") (CS := He.ga K "DamError") (i := 5) (j := 6) (m := 7) (φ := φ_it) (f1 := f_if) (φs := φ_su) (k := 3) ?a0 ?a1 ?a2 ?a3 ?a4 ?a5 ?a6 ?a7 ?a8 ?a9 ?a10 ?a11 ?a12 ?a13 ?a14 ?a15 ?a16 ?a17 ?a18 ?a19 ?a20 ?a21 ?a22 ?a23 ?a24 ?a25 LL SS ?a28 ?a29 ?a30 ?a31 ?a32
        case a0 => exact o
        case a1 => exact rfl
        case a2 => exact rfl
        case a3 => exact rfl
        case a4 => exact rfl
        case a5 => exact rfl
        case a6 => exact rfl
        case a7 => exact rfl
        case a8 => exact rfl
        case a9 => exact rfl
        case a10 => exact rfl
        case a11 => exact (tg T.tx 19 rfl)
        case a12 => exact rfl
        case a13 => exact (.inl rfl)
        case a14 => exact (.inr rfl)
        case a15 => exact (.inl rfl)
        case a16 => exact rfl
        case a17 => exact rfl
        case a18 => exact by decide
        case a19 => exact by decide
        case a20 => exact by decide
        case a21 => exact by show 7 ≤ 7; decide
        case a22 => exact fun _ => rfl
        case a23 => exact (e_bin (b_add o.toOkc) (de_var (i := 3) rfl (.inl rfl) rfl rfl) (de_lst (da_cons (de_mkX0 (c := 8) o.toOkc (by decide) (fun _ h => h) (et_BadClaim T) rfl (tf T.tx 16 rfl) (tg T.tx 12 rfl) rfl rfl) (da_cons (de_mkX0 (c := 9) o.toOkc (by decide) (fun _ h => h) (et_NothingDone T) rfl (tf T.tx 16 rfl) (tg T.tx 13 rfl) rfl rfl) da_nil rfl) rfl)))
        case a24 => exact (ds_if (DW.pt (dw_or (dt_not (dt_val (de_isXo (f := yesX) (cw := .ref (He.ga K "DamError")) (cv := .ref (He.ga K "DamError")) rfl (o.toOkc).K rfl (tf T.tx 4 rfl) (pe_glob rfl (tg T.tx 19 rfl) rfl rfl) (fun _ h => h) (fun c r h => xk_DamError (ρ0 := 0) (xn0 := fun _ => True) T c r h) (de_var (i := 5) rfl (.inl rfl) rfl rfl) rfl rfl rfl) (fun _ => rfl))) (dw_or (dt_not (dt_val (de_isXo (f := yesX) (cw := .ty "ValueError") (cv := .type "ValueError") rfl (o.toOkc).K rfl (tf T.tx 4 rfl) (pe_bltn (u := .type "ValueError") rfl (tf T.tx 14 rfl) (by decide +kernel) rfl (by decide +kernel) (by decide +kernel)) (fun _ h => h) (fun c r h => xk_ValueError (ρ0 := 0) (xn0 := fun _ => True) T c r h) (de_var (i := 5) rfl (.inl rfl) rfl rfl) rfl rfl rfl) (fun _ => rfl))) (dw_or1 (t_cmp (k_eq o.toOkc) rfl (de_call o.toOkc ((g__law_refusal T).mono (by decide)) (tg T.tx 18 rfl) rfl (da_cons (de_var (i := 5) rfl (.inl rfl) rfl rfl) da_nil rfl) rfl rfl rfl) (de_tup (da_cons de_str da_nil rfl))))))) (ds_one (ds_ret de_bl)) ds_nil)
        case a25 => exact fun a oe d c pn hz hf => suite_T T o hz hf
        case a28 => exact hcl rfl T
        case a29 => exact hdi T
        case a30 => exact hst
        case a31 => exact h1
        case a32 => exact h2))))
end
end K0

set_option Elab.async false
set_option linter.all false
set_option maxRecDepth 100000
set_option maxHeartbeats 0
namespace K0
open PySem PySem.Spec PyProof.Rows L2 DL
abbrev R : PySem.W.OpenRow := PySem.W.OpenLaw.row PySem.Challenge.rw_spillgates_k00_errors_tell_their_fields
abbrev hk : PySem.W.Hook := hookZ 5 fa fn tfL ini ex
def ob (s : PySem.W.SharedT) : AlZ := obsZ 5 fa fn tfL ini ex (HandSHeadRun.getT s)
theorem ob_eq (s : PySem.W.SharedT) : ob s = hk.obs s.abs := obsZ_eq (HandSHeadRun.getT_eq s)
def loose : List PySem.Str := ["DamError", "BadPart", "BadNumber", "Unknown", "BadCourse", "BadChange", "BadText", "BadLine", "BadClaim", "NothingDone", "_law_taken", "_law_pick", "_law_same", "_law_refusal"]
theorem run (w : World) : HandSHeadRun.RunEq R (PySem.W.view R.prog [16]) hk ob 20000 loose w := by
  intro os
  kernel_rfl
end K0

set_option Elab.async false
set_option linter.all false
set_option maxRecDepth 100000
set_option maxHeartbeats 0
namespace K0
open PySem PySem.Spec PyProof.Rows L2 DL
theorem facts {w : World} {K : PySem.W.Frag} {h : Heap} {mg : Str → Option Value} {f : Addr} (X : K.In h) (G : h.Ns mainGlobals mg) (hfa : mg ("law" : Str) = some (.ref f)) (c : SaysZ fa fn tfL ini ex h K) :
    LawAtG PySem.Challenge.rw_spillgates_k00_errors_tell_their_fields w K (L2.CX Pr w) 4 63 "script" mg f h := by
  obtain ⟨fd, F⟩ := c.d.def_ 4 rfl
  have e := hfa.symm.trans (He.glo_ok X G (c.d.fact (faN - 3) (f := .glo "law") rfl))
  cases e
  refine ⟨fd, tfL.map (He.cT K), spLaw0 K [] (fun ns => ns.length ≤ 63), fun p hp => ?_, fun p hp => ?_, fun p hp => ?_, b_law F, fun H a ns hl hb hT hS => ⟨a, ns, rfl, hS, fun p hp => ?_, hl, fun _ => rfl⟩, fun base hK hN hTB => ?_⟩
  · obtain ⟨q, hq, rfl⟩ := List.mem_map.mp hp
    exact c.empty q hq
  · obtain ⟨q, hq, rfl⟩ := List.mem_map.mp hp
    exact c.out q hq
  · obtain ⟨q, hq, rfl⟩ := List.mem_map.mp hp
    exact PySem.W.codeHd_of_K X (c.hd q hq)
  · cases hp
  · exact g_law F ⟨⟨base, hK, hN, c.d⟩, c.more, c.ini, fun p hp => hTB _ (List.mem_map.mpr ⟨p, hp, rfl⟩)⟩
end K0
open PySem PySem.W PySem.Calls PyProof.Rows
theorem PySem.Challenge.cw_spillgates_k00_errors_tell_their_fields_holds : PySem.Challenge.rw_spillgates_k00_errors_tell_their_fields.Holds := by
  w_on; o_law
  refine HandSHeadRun.head_any (r := OpenLaw.row PySem.Challenge.rw_spillgates_k00_errors_tell_their_fields) (q := view (OpenLaw.row PySem.Challenge.rw_spillgates_k00_errors_tell_their_fields).prog [16]) (H := K0.hk) (ob := K0.ob) (M := 20000) (loose := K0.loose) (d := HandSHeadRun.topDef (OpenLaw.row PySem.Challenge.rw_spillgates_k00_errors_tell_their_fields).prog 16) (kwd := []) K0.ob_eq
    (by kernel_rfl) (fun s => by kernel_rfl) K0.run (by kernel_rfl) (by kernel_rfl) (by kernel_rfl) (by rfl) (by first | assumption | decide +kernel) (by decide +kernel) ⟨rfl, rfl, rfl, rfl, rfl, by decide +kernel⟩ ?hw ?hc
  case hw => w_witness2
  case hc =>
    refine DL.walk_ofG (l := PySem.Challenge.rw_spillgates_k00_errors_tell_their_fields) (n := 63) (k := 4) (x := "script") (CX := fun w => L2.CX K0.Pr w) rfl (by decide) (by kernel_rfl) ⟨rfl, by decide, by decide⟩ ?F (fun w H s e s' => DL.noCX H s e s')
    intro w mg fa h Y G hmg0
    obtain ⟨K, KX, c⟩ := Y
    have hmg : mg ("law" : PySem.Str) = some (.ref fa) := by
      have e : (HandSHeadRun.topDef (OpenLaw.row PySem.Challenge.rw_spillgates_k00_errors_tell_their_fields).prog 16).name = ("law" : PySem.Str) := by kernel_rfl
      rw [← e]
      exact hmg0
    exact ⟨K, KX, K0.facts KX G hmg c⟩

