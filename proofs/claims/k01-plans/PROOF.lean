import PyProof.Rows.All
import PySem.Challenge.RW_cubeviews_k01_plans
import Wide.All
import OpenK.AllK
import Wide.FinOn
import KE.KStateDown
import Lean
import KE.SortData
import KE.KDictCopyH
import KE.KDictSum
import HandS.ForMost
import HandS.ForExc
import HandS.Defaults
import HandS.Flow
import HandS.IsInst
import HandS.Property
import HandS.ClsMeth
import HandS.ExcIs
import HandS.TryMany
import HandS.TryOnly
import HandS.OwnEq
import HandS.Deep
import HandS.Style
import HandS.Rev
import HandS.CallLocal
import HandS.Sort
import HandS.SortRule
import HandS.DictComp
import HandS.Head0
import HandS.Head1
import HandS.Head2
import HandS.HeadEnd
import HandS.HeadHook1
import HandS.HeadHook2
import HandS.HeadHook3
set_option Elab.async false
set_option linter.all false
set_option maxRecDepth 100000
set_option maxHeartbeats 4000000
/-! ## the typed layer: stable heaps, judgements by what is wanted -/
namespace Tl
open PySem PySem.Spec PyProof.Rows L2
/-! ### stable heaps -/
/-- S' knows all that S knows -/
def Ext (S S' : Hp) : Prop := ∀ a o, S a = some o → S' a = some o
theorem Ext.refl (S : Hp) : Ext S S := fun _ _ h => h
theorem Ext.trans {A B C : Hp} (h : Ext A B) (k : Ext B C) : Ext A C := fun a o e => k a o (h a o e)
/-- what may stand under a lock -/
def canFrz : HO → Bool
  | .lst _ | .dK _ | .dT _ => true
  | _ => false
/-- a mark: what stands there may change, it stays a stream -/
def isMk : HO → Bool
  | .tbl _ => true
  | _ => false
abbrev mkS : HO := .tbl #[]
/-- a stream of drawn numbers -/
def Stream (h : Option HO) : Prop := ∃ i j : Int, h = some (.lst [.int i, .int j]) ∧ 0 ≤ j ∧ j < 2147483647
/-- all of S stands in H (a list, a dict perhaps under a lock; a mark as a stream) -/
def Sub (S H : Hp) : Prop := ∀ a o, S a = some o → (isMk o = false ∧ (H a = some o ∨ (canFrz o = true ∧ ∃ ob, H a = some (.frz ob o)))) ∨ (isMk o = true ∧ Stream (H a))
theorem Sub.old {S H : Hp} {a : Addr} {o : HO} (s : Sub S H) (h : S a = some o) (m : isMk o = false := by rfl) : H a = some o ∨ (canFrz o = true ∧ ∃ ob, H a = some (.frz ob o)) := by
  rcases s a o h with ⟨_, q⟩ | ⟨q, _⟩
  · exact q
  · rw [m] at q; cases q
theorem Sub.stream {S H : Hp} {a : Addr} (s : Sub S H) (h : S a = some mkS) : Stream (H a) := by
  rcases s a _ h with ⟨q, _⟩ | ⟨_, q⟩
  · cases q
  · exact q
theorem Sub.there {S H : Hp} {a : Addr} {o : HO} (s : Sub S H) (h : S a = some o) : H a ≠ none := by
  rcases s a o h with ⟨_, e | ⟨_, ob, e⟩⟩ | ⟨_, i, j, e, _⟩ <;> rw [e] <;> simp
theorem Sub.out {S H : Hp} {a : Addr} (s : Sub S H) (h : H a = none) : S a = none := by
  cases e : S a with
  | none => rfl
  | some o => exact absurd h (s.there e)
theorem Sub.less {S S' H : Hp} (s : Sub S' H) (e : Ext S S') : Sub S H := fun a o h => s a o (e a o h)
theorem Sub.ext {S H H' : Hp} (s : Sub S H) (e : Ext H H') : Sub S H' := fun a o h => (s a o h).imp (fun ⟨m, q⟩ => ⟨m, q.imp (e a o) fun ⟨c, ob, q⟩ => ⟨c, ob, e a _ q⟩⟩) fun ⟨m, i, j, q, r⟩ => ⟨m, i, j, e a _ q, r⟩
theorem Sub.rd {S H : Hp} {a : Addr} {o : HO} (s : Sub S H) (h : S a = some o) (m : isMk o = false := by rfl) : Rd H a o := (s.old h m).imp id fun ⟨_, ob, q⟩ => ⟨ob, q⟩
theorem Sub.ins {S H : Hp} {a C dx : Addr} {fs : List (Str × V)} (s : Sub S H) (h : S a = some (.ins C dx fs)) : H a = some (.ins C dx fs) := by
  rcases s.old h with e | ⟨c, _⟩
  · exact e
  · cases c
theorem Sub.lst {K : PySem.W.Frag} {S H : Hp} {a : Addr} {xs : List V} (s : Sub S H) (h : S a = some (.lst xs)) : SqL K H a xs := .inl (s.rd h)
theorem Sub.tupE {S H : Hp} {a : Addr} {xs : List V} (s : Sub S H) (h : S a = some (.tup xs)) : H a = some (.tup xs) := by
  rcases s.old h with e | ⟨c, _⟩
  · exact e
  · cases c
theorem Sub.tup {K : PySem.W.Frag} {S H : Hp} {a : Addr} {xs : List V} (s : Sub S H) (h : S a = some (.tup xs)) : SqT K H a xs := .inl (s.rd h)
theorem Sub.put {S H : Hp} {a : Addr} {o : HO} (s : Sub S H) (h : S a = none) : Sub S (upd H a o) := fun b u e => by
  rw [upd_ne (ne_of_none e h)]
  exact s b u e
theorem Sub.add {S H : Hp} {a : Addr} {o : HO} (s : Sub S H) (h : H a = some o) (m : isMk o = false := by rfl) : Sub (upd S a o) H := fun b u e => by
  by_cases hb : b = a
  · subst hb
    rw [upd_same] at e
    cases e
    exact .inl ⟨m, .inl h⟩
  · rw [upd_ne hb] at e
    exact s b u e
/-- a stream is marked -/
theorem Sub.mark {S H : Hp} {a : Addr} (s : Sub S H) (h : Stream (H a)) : Sub (upd S a mkS) H := fun b u e => by
  by_cases hb : b = a
  · subst hb
    rw [upd_same] at e
    cases e
    exact .inr ⟨rfl, h⟩
  · rw [upd_ne hb] at e
    exact s b u e
/-- a stream goes on -/
theorem Sub.flow {S H : Hp} {a : Addr} {o : HO} (s : Sub S H) (h : S a = some mkS) (q : Stream (some o)) : Sub S (upd H a o) := fun b u e => by
  by_cases hb : b = a
  · subst hb
    rw [h] at e
    cases e
    exact .inr ⟨rfl, by rw [upd_same]; exact q⟩
  · rw [upd_ne hb]
    exact s b u e
/-- what is locked stays -/
def Frz (H H' : Hp) : Prop := ∀ a ob o, H a = some (.frz ob o) → H' a = some (.frz ob o)
theorem Frz.ext {H H' : Hp} (e : Ext H H') : Frz H H' := fun a _ _ h => e a _ h
theorem Frz.refl {H : Hp} : Frz H H := fun _ _ _ h => h
theorem Frz.trans {A B C : Hp} (h : Frz A B) (k : Frz B C) : Frz A C := fun a ob o e => k a ob o (h a ob o e)
theorem Frz.put {A B : Hp} {p : Addr} {o : HO} (h : Frz A B) (n : ∀ ob u, A p ≠ some (.frz ob u)) : Frz A (upd B p o) := fun a ob u e => by
  have ne : a ≠ p := fun z => n ob u (by rw [← z]; exact e)
  rw [upd_ne ne]
  exact h a ob u e
/-- no mark -/
def NoMk (S : Hp) (a : Addr) : Prop := ∀ u, S a = some u → isMk u = false
theorem NoMk.out {S : Hp} {a : Addr} (h : S a = none) : NoMk S a := fun u e => by rw [h] at e; cases e
theorem NoMk.std {S : Hp} {a : Addr} {o : HO} (h : S a = some o) (m : isMk o = false := by rfl) : NoMk S a := fun u e => by rw [h] at e; cases e; exact m
theorem NoMk.frz {S H : Hp} {a : Addr} {ob : Obj} {o : HO} (s : Sub S H) (h : H a = some (.frz ob o)) : NoMk S a := fun u e => by
  rcases s a u e with ⟨m, _⟩ | ⟨_, i, j, q, _⟩
  · exact m
  · rw [h] at q; cases q
/-- from the stable S within H to S' within H': what H knew stands, but for the marked; what S' knows beyond S is new, or a tuple -/
structure At (S H S' H' : Hp) : Prop where
  s : Ext S S'
  i : Sub S' H'
  h : ∀ a o, NoMk S a → H a = some o → H' a = some o
  f : ∀ a o, S a = none → S' a = some o → H a = none ∨ ∃ xs, o = .tup xs
  z : Frz H H'
theorem At.refl {S H : Hp} (s : Sub S H) : At S H S H := ⟨Ext.refl S, s, fun _ _ _ h => h, fun a o h k => (by rw [h] at k; cases k), Frz.refl⟩
theorem At.sub {S H S' H' : Hp} (a : At S H S' H') : Sub S H' := a.i.less a.s
theorem At.hown {S H S' H' : Hp} {p : Addr} {o : HO} (a : At S H S' H') (k : H p = some o) (h : S p = none) : H' p = some o := a.h p o (NoMk.out h) k
theorem At.hstd {S H S' H' : Hp} {p : Addr} {o u : HO} (a : At S H S' H') (k : H p = some o) (h : S p = some u) (m : isMk u = false := by rfl) : H' p = some o := a.h p o (NoMk.std h m) k
theorem At.non {S H S' H' : Hp} {p : Addr} (a : At S H S' H') (k : H' p = none) : H p = none := by
  cases e : H p with
  | none => rfl
  | some o =>
    have n : S p = none := by
      cases q : S p with
      | none => rfl
      | some u => exact absurd k (a.i.there (a.s p u q))
    rw [a.hown e n] at k
    cases k
theorem At.trans {S H S1 H1 S2 H2 : Hp} (a : At S H S1 H1) (b : At S1 H1 S2 H2) : At S H S2 H2 := by
  refine ⟨a.s.trans b.s, b.i, fun x o n e => ?_, fun x o hx hx2 => ?_, a.z.trans b.z⟩
  · refine b.h x o (fun u hu => ?_) (a.h x o n e)
    cases q : S x with
    | some w =>
      have w2 := a.s x w q
      rw [hu] at w2
      cases w2
      exact n u q
    | none =>
      rcases a.f x u q hu with z | ⟨xs, rfl⟩
      · rw [e] at z; cases z
      · rfl
  · cases e : S1 x with
    | some o' =>
      have z := b.s x o' e
      rw [hx2] at z
      cases z
      exact a.f x o hx e
    | none =>
      rcases b.f x o e hx2 with z | z
      · exact .inl (a.non z)
      · exact .inr z
theorem ext_new {H : Hp} {p : Addr} {o : HO} (h : H p = none) : Ext H (upd H p o) := fun b u e => by
  rw [upd_ne (ne_of_none e h)]
  exact e
/-- a new stable object -/
theorem At.new {S H : Hp} {p : Addr} {o : HO} (s : Sub S H) (h : H p = none) (m : isMk o = false := by rfl) : At S H (upd S p o) (upd H p o) := by
  have hs : S p = none := s.out h
  refine ⟨ext_new hs, (s.ext (ext_new h)).add upd_same m, fun a u _ => ext_new h a u, fun a u ha hb => ?_, Frz.ext (ext_new h)⟩
  by_cases e : a = p
  · subst e; exact .inl h
  · rw [upd_ne e, ha] at hb; cases hb
/-- a new object that stays apart -/
theorem At.apart {S H : Hp} {p : Addr} {o : HO} (s : Sub S H) (h : H p = none) : At S H S (upd H p o) := ⟨Ext.refl S, s.ext (ext_new h), fun a u _ => ext_new h a u, fun _ _ ha hb => (by rw [ha] at hb; cases hb), Frz.ext (ext_new h)⟩
theorem At.keep {S H H' : Hp} (s : Sub S H) (h : Ext H H') : At S H S H' := ⟨Ext.refl S, s.ext h, fun a u _ => h a u, fun _ _ ha hb => (by rw [ha] at hb; cases hb), Frz.ext h⟩
/-- what is stable beyond S is forgotten -/
theorem At.forget {S H S' H' : Hp} (a : At S H S' H') : At S H S H' := ⟨Ext.refl S, a.sub, a.h, fun _ _ ha hb => (by rw [ha] at hb; cases hb), a.z⟩
/-- what may change: no tuple -/
def own : HO → Bool
  | .tup _ | .frz _ _ => false
  | _ => true
theorem At.out {S H S' H' : Hp} {p : Addr} {o : HO} (a : At S H S' H') (h : S p = none) (k : H p = some o) (m : own o = true := by rfl) : S' p = none := by
  cases e : S' p with
  | none => rfl
  | some o' =>
    rcases a.f p o' h e with z | ⟨xs, rfl⟩
    · rw [k] at z; cases z
    · have q := a.hown k h
      rw [a.i.tupE e] at q
      cases q; cases m
/-- an object of one's own goes over into the stable -/
theorem At.settle {S0 H0 S H : Hp} {p : Addr} {o : HO} (a : At S0 H0 S H) (h0 : H0 p = none) (h : H p = some o) (hs : S p = none) (m : isMk o = false := by rfl) : At S0 H0 (upd S p o) H := by
  refine ⟨a.s.trans (ext_new hs), a.i.add h m, a.h, fun x u hx hx2 => ?_, a.z⟩
  by_cases e : x = p
  · subst e; exact .inl h0
  · rw [upd_ne e] at hx2; exact a.f x u hx hx2
/-- a tuple that stands may always be told stable -/
theorem At.tuple {S0 H0 S H : Hp} {p : Addr} {xs : List V} (a : At S0 H0 S H) (h : H p = some (.tup xs)) : ∃ S', At S0 H0 S' H ∧ Ext S S' ∧ S' p = some (.tup xs) := by
  cases e : S p with
  | some o =>
    rcases a.i p o e with ⟨_, z | ⟨_, ob, z⟩⟩ | ⟨_, i, j, z, _⟩
    · rw [h] at z; cases z; exact ⟨S, a, Ext.refl S, e⟩
    · rw [h] at z; cases z
    · rw [h] at z; cases z
  | none =>
    refine ⟨upd S p (.tup xs), ⟨a.s.trans (ext_new e), a.i.add h, a.h, fun x u hx hx2 => ?_, a.z⟩, ext_new e, upd_same⟩
    by_cases q : x = p
    · subst q; rw [upd_same] at hx2; cases hx2; exact .inr ⟨xs, rfl⟩
    · rw [upd_ne q] at hx2; exact a.f x u hx hx2
/-- an object of one's own, not stable, is changed -/
theorem At.put {S0 H0 S H : Hp} {p : Addr} {o : HO} (a : At S0 H0 S H) (h0 : H0 p = none) (hs : S p = none) : At S0 H0 S (upd H p o) := by
  refine ⟨a.s, a.i.put hs, fun x u n e => ?_, a.f, a.z.put fun ob u e => by rw [h0] at e; cases e⟩
  rw [upd_ne (ne_of_none e h0)]
  exact a.h x u n e

/-! ### judgements -/
def WE (X : Cx) (e : Expr) : TE := fun σ H Q => ∀ pins s, Inv X pins σ H s → wpAny (model X.prog X.w) X.A (eval e X.env) (EP X pins σ Q) X.xe s
def WT (X : Cx) (e : Expr) : TT := fun σ H Q => ∀ pins s, Inv X pins σ H s → wpAny (model X.prog X.w) X.A (isTrue e X.env (eval e X.env)) (TP X pins σ Q) X.xe s
def WW (X : Cx) (e : Expr) : TT := fun σ H Q => ∀ whole pins s, Inv X pins σ H s → wpAny (model X.prog X.w) X.A (isTrue e X.env whole) (TP X pins σ Q) X.xe s
def WA (X : Cx) (es : List Expr) : TA := fun σ H Q => ∀ pos pins s, Inv X pins σ H s → wpAny (model X.prog X.w) X.A (spliced (backTo pos (starEach es X.env))) (AP X pins σ Q) X.xe s
def WS (X : Cx) (st : Stmt) : TS := fun D σ H => ∀ pins s, Inv X pins σ H s → wpAny (model X.prog X.w) X.A (exec st X.env) (SP X pins D) X.xe s
def WSs (X : Cx) (st : List Stmt) : TS := fun D σ H => ∀ pins s, Inv X pins σ H s → wpAny (model X.prog X.w) X.A (execs st X.env) (SP X pins D) X.xe s
section
variable {X : Cx} {e : Expr} {σ : L2.St} {H : Hp}
theorem peS : PE X e (WE X e) := ⟨fun pins s _ _ _ I h => h pins s I⟩
theorem ptS : PT X e (WT X e) := ⟨fun pins s _ _ _ I h => h pins s I⟩
theorem pwS : PW X e (WW X e) := ⟨fun wh pins s _ _ _ I h => h wh pins s I⟩
theorem paS {es : List Expr} : PA X es (WA X es) := ⟨fun pos pins s _ _ _ I h => h pos pins s I⟩
theorem psS {st : Stmt} : PS X st (WS X st) := ⟨fun pins s _ _ _ I h => h pins s I⟩
theorem pssS {st : List Stmt} : PSs X st (WSs X st) := ⟨fun pins s _ _ _ I h => h pins s I⟩
theorem WE.of {t : TE} {Q : VK} (h : PE X e t) (q : t σ H Q) : WE X e σ H Q := fun pins s I => h.run pins s σ H Q I q
theorem WT.of {t : TT} {Q : Bool → Hp → Prop} (h : PT X e t) (q : t σ H Q) : WT X e σ H Q := fun pins s I => h.run pins s σ H Q I q
theorem WW.of {t : TT} {Q : Bool → Hp → Prop} (h : PW X e t) (q : t σ H Q) : WW X e σ H Q := fun wh pins s I => h.run wh pins s σ H Q I q
theorem WA.of {es : List Expr} {t : TA} {Q : List V → Hp → Prop} (h : PA X es t) (q : t σ H Q) : WA X es σ H Q := fun pos pins s I => h.run pos pins s σ H Q I q
theorem WS.of {st : Stmt} {t : TS} {D : Ends} (h : PS X st t) (q : t D σ H) : WS X st D σ H := fun pins s I => h.run pins s σ H D I q
theorem WSs.of {st : List Stmt} {t : TS} {D : Ends} (h : PSs X st t) (q : t D σ H) : WSs X st D σ H := fun pins s I => h.run pins s σ H D I q
theorem WE.mono {Q Q' : VK} (h : WE X e σ H Q) (k : ∀ v H', Q v H' → Q' v H') : WE X e σ H Q' := fun pins s I => thn (h pins s I) fun _ _ ⟨v, H', I', r, q⟩ => ⟨v, H', I', r, k v H' q⟩
theorem WT.mono {Q Q' : Bool → Hp → Prop} (h : WT X e σ H Q) (k : ∀ v H', Q v H' → Q' v H') : WT X e σ H Q' := fun pins s I => thn (h pins s I) fun _ _ ⟨H', I', q⟩ => ⟨H', I', k _ H' q⟩
theorem WA.mono {es : List Expr} {Q Q' : List V → Hp → Prop} (h : WA X es σ H Q) (k : ∀ v H', Q v H' → Q' v H') : WA X es σ H Q' := fun pos pins s I => thn (h pos pins s I) fun _ _ ⟨v, H', I', r, q⟩ => ⟨v, H', I', r, k v H' q⟩
theorem WSs.seq {st : Stmt} {rest : List Stmt} {D : Ends} (h : WS X st { D with nx := WSs X rest D } σ H) : WSs X (st :: rest) D σ H := WSs.of (pss_cons psS pssS) h
theorem WSs.nil {D : Ends} (h : D.nx σ H) : WSs X [] D σ H := WSs.of pss_nil h
end

/-! ### pure expressions: from any heap that knows S -/
/-- a result with r -/
def EvR (X : Cx) (e : Expr) (σ : L2.St) (S : Hp) (r : V → Hp → Prop) : Prop := ∀ S1 H1, Ext S S1 → Sub S1 H1 → ∀ Q : VK, (∀ v S2 H2, At S1 H1 S2 H2 → r v S2 → Q v H2) → WE X e σ H1 Q
def EvB (X : Cx) (e : Expr) (σ : L2.St) (S : Hp) (b : Bool) : Prop := ∀ S1 H1, Ext S S1 → Sub S1 H1 → ∀ Q : Bool → Hp → Prop, (∀ S2 H2, At S1 H1 S2 H2 → Q b H2) → WT X e σ H1 Q
def EvW (X : Cx) (e : Expr) (σ : L2.St) (S : Hp) (b : Bool) : Prop := ∀ S1 H1, Ext S S1 → Sub S1 H1 → ∀ Q : Bool → Hp → Prop, (∀ S2 H2, At S1 H1 S2 H2 → Q b H2) → WW X e σ H1 Q
def EvA (X : Cx) (es : List Expr) (σ : L2.St) (S : Hp) (r : List V → Hp → Prop) : Prop := ∀ S1 H1, Ext S S1 → Sub S1 H1 → ∀ Q : List V → Hp → Prop, (∀ vs S2 H2, At S1 H1 S2 H2 → r vs S2 → Q vs H2) → WA X es σ H1 Q
theorem EvR.ext {X : Cx} {e : Expr} {σ : L2.St} {S S' : Hp} {r : V → Hp → Prop} (h : EvR X e σ S r) (k : Ext S S') : EvR X e σ S' r := fun S1 H1 e1 => h S1 H1 (k.trans e1)
theorem EvR.mono {X : Cx} {e : Expr} {σ : L2.St} {S : Hp} {r r' : V → Hp → Prop} (h : EvR X e σ S r) (k : ∀ v S', Ext S S' → r v S' → r' v S') : EvR X e σ S r' := fun S1 H1 e1 s Q q => h S1 H1 e1 s Q fun v S2 H2 a rr => q v S2 H2 a (k v S2 (e1.trans a.s) rr)
theorem EvB.ext {X : Cx} {e : Expr} {σ : L2.St} {S S' : Hp} {b : Bool} (h : EvB X e σ S b) (k : Ext S S') : EvB X e σ S' b := fun S1 H1 e1 => h S1 H1 (k.trans e1)
theorem EvA.ext {X : Cx} {es : List Expr} {σ : L2.St} {S S' : Hp} {r : List V → Hp → Prop} (h : EvA X es σ S r) (k : Ext S S') : EvA X es σ S' r := fun S1 H1 e1 => h S1 H1 (k.trans e1)

/-! ### values and what they stand for -/
class Rep (α : Type) where
  rep : PySem.W.Frag → (Str → Option Value) → Hp → V → α → Prop
  ext : ∀ {K : PySem.W.Frag} {mg : Str → Option Value} {S S' : Hp} {v : V} {x : α}, Ext S S' → rep K mg S v x → rep K mg S' v x
end Tl
namespace Tl
open PySem PySem.Spec PyProof.Rows L2
/-- v stands for x, in the stable heap S -/
def rep {α : Type} [Rep α] (K : PySem.W.Frag) (mg : Str → Option Value) (S : Hp) (v : V) (x : α) : Prop := Rep.rep K mg S v x
theorem rep_ext {α : Type} [Rep α] {K : PySem.W.Frag} {mg : Str → Option Value} {S S' : Hp} {v : V} {x : α} (h : rep K mg S v x) (e : Ext S S') : rep K mg S' v x := Rep.ext e h
/-- item by item -/
inductive Reps {α : Type} [Rep α] (K : PySem.W.Frag) (mg : Str → Option Value) (S : Hp) : List V → List α → Prop where
  | nil : Reps K mg S [] []
  | cons {v : V} {vs : List V} {x : α} {xs : List α} (h : rep K mg S v x) (t : Reps K mg S vs xs) : Reps K mg S (v :: vs) (x :: xs)
section
variable {α : Type} [Rep α] {K : PySem.W.Frag} {mg : Str → Option Value} {S S' : Hp}
theorem Reps.ext (e : Ext S S') {vs : List V} {xs : List α} (h : Reps K mg S vs xs) : Reps K mg S' vs xs := by
  induction h with
  | nil => exact .nil
  | cons h _ ih => exact .cons (rep_ext h e) ih
theorem Reps.len {vs : List V} {xs : List α} (h : Reps K mg S vs xs) : vs.length = xs.length := by
  induction h with
  | nil => rfl
  | cons _ _ ih => simp [ih]
theorem Reps.app {vs ws : List V} {xs ys : List α} (h : Reps K mg S vs xs) (k : Reps K mg S ws ys) : Reps K mg S (vs ++ ws) (xs ++ ys) := by
  induction h with
  | nil => exact k
  | cons h _ ih => exact .cons h ih
theorem Reps.snoc {vs : List V} {xs : List α} {v : V} {x : α} (h : Reps K mg S vs xs) (k : rep K mg S v x) : Reps K mg S (vs ++ [v]) (xs ++ [x]) := h.app (.cons k .nil)
theorem Reps.get {vs : List V} {xs : List α} (h : Reps K mg S vs xs) : ∀ {i : Nat} {x : α}, xs[i]? = some x → ∃ v, vs[i]? = some v ∧ rep K mg S v x := by
  induction h with
  | nil => intro i x e; simp at e
  | cons h t ih =>
    intro i x e
    cases i with
    | zero => simp at e; subst e; exact ⟨_, rfl, h⟩
    | succ i => simp at e; obtain ⟨v, h1, h2⟩ := ih e; exact ⟨v, by simpa using h1, h2⟩
theorem Reps.get' {vs : List V} {xs : List α} (h : Reps K mg S vs xs) : ∀ {i : Nat} {v : V}, vs[i]? = some v → ∃ x, xs[i]? = some x ∧ rep K mg S v x := by
  induction h with
  | nil => intro i x e; simp at e
  | cons h t ih =>
    intro i v e
    cases i with
    | zero => simp at e; subst e; exact ⟨_, rfl, h⟩
    | succ i => simp at e; obtain ⟨x, h1, h2⟩ := ih e; exact ⟨x, by simpa using h1, h2⟩
theorem Reps.take {vs : List V} {xs : List α} (h : Reps K mg S vs xs) : ∀ n, Reps K mg S (vs.take n) (xs.take n) := by
  induction h with
  | nil => intro n; simpa using Reps.nil
  | cons h t ih => intro n; cases n with
    | zero => exact .nil
    | succ n => exact .cons h (ih n)
theorem Reps.drop {vs : List V} {xs : List α} (h : Reps K mg S vs xs) : ∀ n, Reps K mg S (vs.drop n) (xs.drop n) := by
  induction h with
  | nil => intro n; simpa using Reps.nil
  | cons h t ih => intro n; cases n with
    | zero => exact .cons h t
    | succ n => exact ih n
theorem Reps.set {vs : List V} {xs : List α} (h : Reps K mg S vs xs) : ∀ (n : Nat) {v : V} {x : α}, rep K mg S v x → Reps K mg S (vs.set n v) (xs.set n x) := by
  induction h with
  | nil => intro n v x _; exact .nil
  | cons h t ih => intro n v x k; cases n with
    | zero => exact .cons k t
    | succ n => exact .cons h (ih n k)
theorem Reps.reverse {vs : List V} {xs : List α} (h : Reps K mg S vs xs) : Reps K mg S vs.reverse xs.reverse := by
  induction h with
  | nil => exact .nil
  | cons h t ih => rw [List.reverse_cons, List.reverse_cons]; exact ih.snoc h
theorem Reps.map {β : Type} [Rep β] {vs : List V} {xs : List α} {f : α → β} (h : Reps K mg S vs xs) (k : ∀ v x, rep K mg S v x → rep K mg S v (f x)) : Reps K mg S vs (xs.map f) := by
  induction h with
  | nil => exact .nil
  | cons h t ih => exact .cons (k _ _ h) ih
end
instance : Rep Int where
  rep := fun _ _ _ v x => v = .int x
  ext := fun _ h => h
instance : Rep Bool where
  rep := fun _ _ _ v x => v = .bl x
  ext := fun _ h => h
instance : Rep Unit where
  rep := fun _ _ _ v _ => v = .non
  ext := fun _ h => h
instance : Rep Str where
  rep := fun _ _ _ v x => v = .str x
  ext := fun _ h => h
instance {α : Type} [Rep α] : Rep (Option α) where
  rep := fun K mg S v x => match x with
    | none => v = .non
    | some y => rep K mg S v y
  ext := fun {_ _ _ _ _ x} e h => match x, h with
    | none, h => h
    | some _, h => rep_ext h e
/-- a tuple of two, tracked -/
instance {α β : Type} [Rep α] [Rep β] : Rep (α × β) where
  rep := fun K mg S v x => ∃ a y z, v = .ref a ∧ S a = some (.tup [y, z]) ∧ rep K mg S y x.1 ∧ rep K mg S z x.2
  ext := fun e ⟨a, y, z, h1, h2, h3, h4⟩ => ⟨a, y, z, h1, e _ _ h2, rep_ext h3 e, rep_ext h4 e⟩
/-- a list, tracked -/
instance {α : Type} [Rep α] : Rep (List α) where
  rep := fun K mg S v x => ∃ a ys, v = .ref a ∧ S a = some (.lst ys) ∧ Reps K mg S ys x ∧ x.length ≤ sizeLine
  ext := fun e ⟨a, ys, h1, h2, h3, h4⟩ => ⟨a, ys, h1, e _ _ h2, h3.ext e, h4⟩
/-- a key that is a tuple of ints and texts -/
class TKey (κ : Type) extends Rep κ where
  key : κ → List Key
  inj : ∀ a b, key a = key b → a = b
  at_ : ∀ {K mg S v k}, toRep.rep K mg S v k → ∃ b, v = .ref b ∧ S b = some (.tup ((key k).map kV))
  of : ∀ {K mg S b k}, S b = some (.tup ((key k).map kV)) → toRep.rep K mg S (.ref b) k
instance : TKey (Int × Int) where
  key := fun k => [.inl k.1, .inl k.2]
  inj := fun a b h => by
    obtain ⟨a1, a2⟩ := a
    obtain ⟨b1, b2⟩ := b
    simp at h
    simp [h]
  at_ := fun ⟨a, y, z, h1, h2, h3, h4⟩ => ⟨a, h1, by rw [h2, show y = _ from h3, show z = _ from h4]; rfl⟩
  of := fun h => ⟨_, _, _, rfl, h, rfl, rfl⟩
instance : TKey (Str × Int) where
  key := fun k => [.inr k.1, .inl k.2]
  inj := fun a b h => by
    obtain ⟨a1, a2⟩ := a
    obtain ⟨b1, b2⟩ := b
    simp at h
    simp [h]
  at_ := fun ⟨a, y, z, h1, h2, h3, h4⟩ => ⟨a, h1, by rw [h2, show y = _ from h3, show z = _ from h4]; rfl⟩
  of := fun h => ⟨_, _, _, rfl, h, rfl, rfl⟩
/-- entry by entry -/
inductive DReps {κ α : Type} [TKey κ] [Rep α] (K : PySem.W.Frag) (mg : Str → Option Value) (S : Hp) : List (List Key × V) → List (κ × α) → Prop where
  | nil : DReps K mg S [] []
  | cons {v : V} {vs : List (List Key × V)} {k : κ} {x : α} {xs : List (κ × α)} (h : rep K mg S v x) (t : DReps K mg S vs xs) : DReps K mg S ((TKey.key k, v) :: vs) ((k, x) :: xs)
section
variable {κ α : Type} [TKey κ] [Rep α] {K : PySem.W.Frag} {mg : Str → Option Value} {S S' : Hp} {vs ws : List (List Key × V)} {xs ys : List (κ × α)}
theorem DReps.ext (e : Ext S S') (h : DReps K mg S vs xs) : DReps K mg S' vs xs := by
  induction h with
  | nil => exact .nil
  | cons h _ ih => exact .cons (rep_ext h e) ih
theorem DReps.len (h : DReps K mg S vs xs) : vs.length = xs.length := by
  induction h with
  | nil => rfl
  | cons _ _ ih => simp [ih]
theorem DReps.app (h : DReps K mg S vs xs) (k : DReps K mg S ws ys) : DReps K mg S (vs ++ ws) (xs ++ ys) := by
  induction h with
  | nil => exact k
  | cons h _ ih => exact .cons h ih
theorem DReps.keys (h : DReps K mg S vs xs) : vs.map (·.1) = xs.map fun p => TKey.key p.1 := by
  induction h with
  | nil => rfl
  | cons h _ ih => rw [List.map_cons, List.map_cons, ih]
theorem key_dec [DecidableEq κ] (a b : κ) : decide (TKey.key a = TKey.key b) = decide (a = b) := by
  by_cases h : a = b
  · rw [decide_eq_true h, decide_eq_true (congrArg _ h)]
  · rw [decide_eq_false h, decide_eq_false fun z => h (TKey.inj a b z)]
/-- what the dict holds at k -/
def dget [DecidableEq κ] : List (κ × α) → κ → Option α
  | [], _ => none
  | (j, x) :: r, k => if j = k then some x else dget r k
theorem DReps.get [DecidableEq κ] (h : DReps K mg S vs xs) (k : κ) : match dget xs k with
    | some x => ∃ v, valV vs (TKey.key k) = some v ∧ rep K mg S v x
    | none => valV vs (TKey.key k) = none := by
  induction h with
  | nil => exact valV_nil
  | @cons v vs j x xs h t ih =>
    by_cases e : j = k
    · subst e
      have : dget ((j, x) :: xs) j = some x := if_pos rfl
      rw [this]
      exact ⟨v, valV_pos rfl, h⟩
    · have : dget ((j, x) :: xs) k = dget xs k := if_neg e
      rw [this]
      have n : ¬ (TKey.key j) = TKey.key k := fun z => e (TKey.inj j k z)
      rw [valV_neg (p := (TKey.key j, v)) n]
      exact ih
/-- the dict behind d[k] = x -/
def dput [DecidableEq κ] (xs : List (κ × α)) (k : κ) (x : α) : List (κ × α) := if (xs.any fun p => decide (p.1 = k)) = true then xs.map (fun p => if p.1 = k then (p.1, x) else p) else xs ++ [(k, x)]
theorem DReps.any [DecidableEq κ] (h : DReps K mg S vs xs) (k : κ) : (vs.any fun p => decide (p.1 = TKey.key k)) = xs.any fun p => decide (p.1 = k) := by
  induction h with
  | nil => rfl
  | cons h _ ih => rw [List.any_cons, List.any_cons, ih, key_dec]
theorem DReps.put [DecidableEq κ] (h : DReps K mg S vs xs) (k : κ) {v : V} {x : α} (r : rep K mg S v x) : DReps K mg S (putK vs (TKey.key k) v) (dput xs k x) := by
  unfold putK dput
  rw [h.any k]
  by_cases e : (xs.any fun p => decide (p.1 = k)) = true
  · rw [if_pos e, if_pos e]
    clear e
    induction h with
    | nil => exact .nil
    | @cons w vs j y xs hh t ih =>
      rw [List.map_cons, List.map_cons]
      by_cases q : j = k
      · subst q
        rw [if_pos rfl, if_pos rfl]
        exact .cons r ih
      · rw [if_neg (fun z => q (TKey.inj j k z)), if_neg q]
        exact .cons hh ih
  · rw [if_neg e, if_neg e]
    exact h.app (.cons r .nil)
theorem dput_len [DecidableEq κ] (xs : List (κ × α)) (k : κ) (x : α) : (dput xs k x).length ≤ xs.length + 1 := by
  unfold dput
  split
  · rw [List.length_map]; omega
  · rw [List.length_append]; simp
end
structure Dict (κ α : Type) where
  kvs : List (κ × α)
instance {κ α : Type} [TKey κ] [Rep α] : Rep (Dict κ α) where
  rep := fun K mg S v x => ∃ a ys, v = .ref a ∧ S a = some (.dT ys) ∧ DReps K mg S ys x.kvs ∧ x.kvs.length ≤ sizeLine
  ext := fun e h => by
    obtain ⟨a, ys, h1, h2, h3, h4⟩ := h
    exact ⟨a, ys, h1, e _ _ h2, h3.ext e, h4⟩
/-- the class that the module's name x holds -/
def clsAt (mg : Str → Option Value) (x : Str) : Addr := match mg x with
  | some (.ref a) => a
  | _ => 0

/-! ### typed judgements -/
abbrev Ev {α : Type} [Rep α] (X : Cx) (e : Expr) (σ : L2.St) (S : Hp) (x : α) : Prop := EvR X e σ S fun v S' => rep X.K X.mg S' v x
section
variable {X : Cx} {a b c e : Expr} {σ : L2.St} {S : Hp} {pos : Pos} {rest : List Expr}
theorem Ev.to {α : Type} [Rep α] {x y : α} (h : Ev X e σ S x) (q : x = y) : Ev X e σ S y := q ▸ h
theorem ev_var {α : Type} [Rep α] (i : Nat) {x : Str} {v : V} {y : α} (hr : rep X.K X.mg S v y) (hs : σ[i]? = some (some v) := by rfl) (hN : X.N[i]? = some x := by rfl) (hv : Vis X.env.scope x := by first | exact Or.inl rfl | exact Or.inr (Or.inl rfl) | exact Or.inr (Or.inr rfl))
    (hd : (x == ("__debug__" : Str)) = false := by decide) (hcd : (x == ("__classdict__" : Str)) = false := by decide) : Ev X (.Name x pos) σ S y := fun S1 H1 e1 s Q q =>
  WE.of (pe_var hN hv hd hcd) ⟨v, hs, q v S1 H1 (At.refl s) (rep_ext hr e1)⟩
theorem ev_int {i : Int} {j : Nat} : Ev X (.Constant (.int i) j pos) σ S i := fun S1 H1 _ s Q q => WE.of pe_int (q _ S1 H1 (At.refl s) rfl)
theorem ev_bool {i : Bool} {j : Nat} : Ev X (.Constant (.bool i) j pos) σ S i := fun S1 H1 _ s Q q => WE.of pe_bl (q _ S1 H1 (At.refl s) rfl)
theorem ev_str {i : Str} {j : Nat} : Ev X (.Constant (.str i) j pos) σ S i := fun S1 H1 _ s Q q => WE.of pe_str (q _ S1 H1 (At.refl s) rfl)
theorem ev_none {j : Nat} : Ev X (.Constant .none j pos) σ S () := fun S1 H1 _ s Q q => WE.of pe_non (q _ S1 H1 (At.refl s) rfl)
theorem ev_noneO {α : Type} [Rep α] {j : Nat} : Ev X (.Constant .none j pos) σ S (none : Option α) := fun S1 H1 _ s Q q => WE.of pe_non (q _ S1 H1 (At.refl s) rfl)
theorem ev_some {α : Type} [Rep α] {x : α} (h : Ev X e σ S x) : Ev X e σ S (some x) := h
/-- a module's int -/
theorem ev_gint {x : Str} {i : Int} (hm : ∃ t, X.mg x = some (.int i t)) (hg : Gl X x := by rfl) (hd : (x == ("__debug__" : Str)) = false := by decide) : Ev X (.Name x pos) σ S i := fun S1 H1 _ s Q q => by
  obtain ⟨t, hm⟩ := hm
  exact WE.of (pe_glob (v := .int i) hg hm ⟨t, rfl⟩ hd) (q _ S1 H1 (At.refl s) rfl)
/-- two expressions, a rule on their values -/
theorem ev_op2 {α β γ : Type} [Rep α] [Rep β] [Rep γ] {x : α} {y : β} {z : γ} {op : Operator} {r : R2} (ho : OpR X (binaryOp op) r) (ha : Ev X a σ S x) (hb : Ev X b σ S y)
    (hr : ∀ v u S2 H2, Ext S S2 → Sub S2 H2 → rep X.K X.mg S2 v x → rep X.K X.mg S2 u y → ∀ Q : VK, (∀ w S3 H3, At S2 H2 S3 H3 → rep X.K X.mg S3 w z → Q w H3) → r v u H2 Q) : Ev X (.BinOp a op b pos) σ S z := fun S1 H1 e1 s Q q =>
  WE.of (pe_op ho peS peS) (ha S1 H1 e1 s _ fun v S2 H2 a2 r2 => hb S2 H2 (e1.trans a2.s) a2.i _ fun u S3 H3 a3 r3 =>
    hr v u S3 H3 ((e1.trans a2.s).trans a3.s) a3.i (rep_ext r2 a3.s) r3 Q fun w S4 H4 a4 r4 => q w S4 H4 ((a2.trans a3).trans a4) r4)
theorem ev_opI {i j : Int} {op : Operator} {g : Int → Int → Int} (ho : OpR X (binaryOp op) (rI0 fun i j => .int (g i j))) (ha : Ev X a σ S i) (hb : Ev X b σ S j) : Ev X (.BinOp a op b pos) σ S (g i j) :=
  ev_op2 ho ha hb fun v u S2 H2 _ s rv ru Q q => ⟨i, j, rv, ru, q _ S2 H2 (At.refl s) rfl⟩
theorem ev_opIc {i j : Int} {op : Operator} {g : Int → Int → Int} {C : Int → Int → Prop} (ho : OpR X (binaryOp op) (rI C fun i j => .int (g i j))) (ha : Ev X a σ S i) (hb : Ev X b σ S j) (hc : C i j) : Ev X (.BinOp a op b pos) σ S (g i j) :=
  ev_op2 ho ha hb fun v u S2 H2 _ s rv ru Q q => ⟨i, j, rv, ru, hc, q _ S2 H2 (At.refl s) rfl⟩
theorem ev_add {i j : Int} (ha : Ev X a σ S i) (hb : Ev X b σ S j) : Ev X (.BinOp a .Add b pos) σ S (i + j) := ev_opI op_add ha hb
theorem ev_sub {i j : Int} (ha : Ev X a σ S i) (hb : Ev X b σ S j) : Ev X (.BinOp a .Sub b pos) σ S (i - j) := ev_opI op_sub ha hb
theorem ev_mul {i j : Int} (ha : Ev X a σ S i) (hb : Ev X b σ S j) (hc : CMul i j) : Ev X (.BinOp a .Mult b pos) σ S (i * j) := ev_opIc op_mul ha hb hc
theorem ev_fdiv {i j : Int} (ha : Ev X a σ S i) (hb : Ev X b σ S j) (hc : CDiv i j) : Ev X (.BinOp a .FloorDiv b pos) σ S (i / j) := ev_opIc op_fdiv ha hb hc
theorem ev_mod {i j : Int} (ha : Ev X a σ S i) (hb : Ev X b σ S j) (hc : 0 < j) : Ev X (.BinOp a .Mod b pos) σ S (i % j) := ev_opIc op_mod ha hb hc
theorem ev_pow {i j : Int} (ha : Ev X a σ S i) (hb : Ev X b σ S j) (hc : CPow i j) : Ev X (.BinOp a .Pow b pos) σ S (i ^ j.toNat) := ev_opIc op_pow ha hb hc
theorem ev_neg {i : Int} (ha : Ev X a σ S i) : Ev X (.UnaryOp .USub a pos) σ S (-i) := fun S1 H1 e1 s Q q =>
  WE.of (pe_un un_neg peS) (ha S1 H1 e1 s _ fun v S2 H2 a2 r2 => ⟨i, r2, q _ S2 H2 a2 rfl⟩)
/-- a comparison's inner part -/
def WC (X : Cx) (op : CmpOp) (a b : Expr) : TE := fun σ H Q => ∀ pins s, Inv X pins σ H s →
  wpAny (model X.prog X.w) X.A (eval a X.env) (fun v s₁ => wpAny (model X.prog X.w) X.A (eval b X.env) (fun u s₂ => wpAny (model X.prog X.w) X.A (compareOp op v u) (EP X pins σ Q) X.xe s₂) X.xe s₁) X.xe s
theorem pcS {op : CmpOp} : PC X op a b (WC X op a b) := ⟨fun pins s _ _ _ I h => h pins s I⟩
theorem WC.of {op : CmpOp} {t : TE} {H : Hp} {Q : VK} (h : PC X op a b t) (q : t σ H Q) : WC X op a b σ H Q := fun pins s I => h.run pins s σ H Q I q
theorem pc_of {op : CmpOp} {r : R2} {ta tb : TE} (ho : OpR X (compareOp op) r) (ha : PE X a ta) (hb : PE X b tb) : PC X op a b (tOp r ta tb) :=
  ⟨fun pins s σ H Q I h => binT ha hb I h fun v u s2 x y H2 I2 rx ry q => ho pins s2 σ H2 x y v u Q I2 rx ry q⟩
def EvC (X : Cx) (op : CmpOp) (a b : Expr) (σ : L2.St) (S : Hp) (z : Bool) : Prop := ∀ S1 H1, Ext S S1 → Sub S1 H1 → ∀ Q : VK, (∀ S2 H2, At S1 H1 S2 H2 → Q (.bl z) H2) → WC X op a b σ H1 Q
theorem EvC.to {op : CmpOp} {x y : Bool} (h : EvC X op a b σ S x) (q : x = y) : EvC X op a b σ S y := q ▸ h
theorem ev_cmp {op : CmpOp} {z : Bool} (h : EvC X op a b σ S z) (hm : behindInMarks op b = false := by first | exact nomark _ | with_unfolding_all rfl) : Ev X (.Compare a [op] [b] pos) σ S z := fun S1 H1 e1 s Q q =>
  WE.of (pe_cmp pcS hm) (h S1 H1 e1 s Q fun S2 H2 a2 => q _ S2 H2 a2 rfl)
theorem et_cmp {op : CmpOp} {z : Bool} (h : EvC X op a b σ S z) (hm : behindInMarks op b = false := by first | exact nomark _ | with_unfolding_all rfl) : EvB X (.Compare a [op] [b] pos) σ S z := fun S1 H1 e1 s Q q =>
  WT.of (pt_cmp pcS hm) (h S1 H1 e1 s _ fun S2 H2 a2 => ⟨z, rfl, q S2 H2 a2⟩)
theorem ec_op {α β : Type} [Rep α] [Rep β] {x : α} {y : β} {z : Bool} {op : CmpOp} {r : R2} (ho : OpR X (compareOp op) r) (ha : Ev X a σ S x) (hb : Ev X b σ S y)
    (hr : ∀ v u S2 H2, Ext S S2 → Sub S2 H2 → rep X.K X.mg S2 v x → rep X.K X.mg S2 u y → ∀ Q : VK, Q (.bl z) H2 → r v u H2 Q) : EvC X op a b σ S z := fun S1 H1 e1 s Q q =>
  WC.of (pc_of ho peS peS) (ha S1 H1 e1 s _ fun v S2 H2 a2 r2 => hb S2 H2 (e1.trans a2.s) a2.i _ fun u S3 H3 a3 r3 =>
    hr v u S3 H3 ((e1.trans a2.s).trans a3.s) a3.i (rep_ext r2 a3.s) r3 Q (q S3 H3 (a2.trans a3)))
theorem ec_I {i j : Int} {op : CmpOp} {g : Int → Int → Bool} (ho : OpR X (compareOp op) (rI0 fun i j => .bl (g i j))) (ha : Ev X a σ S i) (hb : Ev X b σ S j) : EvC X op a b σ S (g i j) :=
  ec_op ho ha hb (fun v u S2 H2 _ s rv ru Q q => ⟨i, j, rv, ru, q⟩)
theorem ec_lt {i j : Int} (ha : Ev X a σ S i) (hb : Ev X b σ S j) : EvC X .Lt a b σ S (decide (i < j)) := ec_I (g := fun i j => decide (i < j)) op_lt ha hb
theorem ec_le {i j : Int} (ha : Ev X a σ S i) (hb : Ev X b σ S j) : EvC X .LtE a b σ S (decide (i ≤ j)) := ec_I (g := fun i j => decide (i ≤ j)) op_le ha hb
theorem ec_gt {i j : Int} (ha : Ev X a σ S i) (hb : Ev X b σ S j) : EvC X .Gt a b σ S (decide (j < i)) := ec_I (g := fun i j => decide (j < i)) op_gt ha hb
theorem ec_ge {i j : Int} (ha : Ev X a σ S i) (hb : Ev X b σ S j) : EvC X .GtE a b σ S (decide (j ≤ i)) := ec_I (g := fun i j => decide (j ≤ i)) op_ge ha hb
/-- scalars: == of values -/
class Scal (α : Type) extends Rep α where
  toV : α → V
  is : ∀ {K mg S v x}, toRep.rep K mg S v x → v = toV x
  ok : ∀ x y, scal (toV x) (toV y) = true
  inj : ∀ x y, toV x = toV y → x = y
instance : Scal Int where
  toV := .int
  is := fun h => h
  ok := fun _ _ => rfl
  inj := fun _ _ h => V.int.inj h
instance : Scal Bool where
  toV := .bl
  is := fun h => h
  ok := fun _ _ => rfl
  inj := fun _ _ h => V.bl.inj h
instance : Scal Str where
  toV := .str
  is := fun h => h
  ok := fun _ _ => rfl
  inj := fun _ _ h => V.str.inj h
theorem ec_eq {α : Type} [Scal α] [DecidableEq α] {i j : α} (ha : Ev X a σ S i) (hb : Ev X b σ S j) : EvC X .Eq a b σ S (decide (i = j)) :=
  ec_op op_eq ha hb (fun v u S2 H2 _ s rv ru Q q => by
    rw [Scal.is rv, Scal.is ru]
    refine ⟨Scal.ok i j, ?_⟩
    have e : decide (Scal.toV i = Scal.toV j) = decide (i = j) := by
      by_cases h : i = j
      · rw [decide_eq_true h, decide_eq_true (congrArg _ h)]
      · rw [decide_eq_false h, decide_eq_false fun z => h (Scal.inj i j z)]
    rw [e]; exact q)
theorem ec_ne {α : Type} [Scal α] [DecidableEq α] {i j : α} (ha : Ev X a σ S i) (hb : Ev X b σ S j) : EvC X .NotEq a b σ S (!decide (i = j)) :=
  ec_op op_ne ha hb (fun v u S2 H2 _ s rv ru Q q => by
    rw [Scal.is rv, Scal.is ru]
    refine ⟨Scal.ok i j, ?_⟩
    have e : decide (Scal.toV i = Scal.toV j) = decide (i = j) := by
      by_cases h : i = j
      · rw [decide_eq_true h, decide_eq_true (congrArg _ h)]
      · rw [decide_eq_false h, decide_eq_false fun z => h (Scal.inj i j z)]
    rw [e]; exact q)
/-- a <= b <= c of ints -/
theorem ev_chainI {i j k : Int} {op op' : CmpOp} {g g' : Int → Int → Bool} (ho : OpR X (compareOp op) (rI0 fun i j => .bl (g i j))) (ho' : OpR X (compareOp op') (rI0 fun i j => .bl (g' i j))) (ha : Ev X a σ S i) (hb : Ev X b σ S j) (hc : Ev X c σ S k)
    (hm : lastMarks [op, op'] [b, c] = false := by with_unfolding_all rfl) : Ev X (.Compare a [op, op'] [b, c] pos) σ S (g i j && g' j k) := fun S1 H1 e1 s Q q =>
  WE.of (pe_chain ho ho' peS peS peS hm) (ha S1 H1 e1 s _ fun v S2 H2 a2 r2 => hb S2 H2 (e1.trans a2.s) a2.i _ fun u S3 H3 a3 r3 => by
    refine ⟨i, j, r2, r3, g i j, rfl, ?_⟩
    cases e : g i j with
    | true => exact hc S3 H3 ((e1.trans a2.s).trans a3.s) a3.i _ fun w S4 H4 a4 r4 => ⟨j, k, r3, r4, q _ S4 H4 ((a2.trans a3).trans a4) (by show V.bl _ = V.bl _; rw [e]; rfl)⟩
    | false => exact q _ S3 H3 (a2.trans a3) (by show V.bl _ = V.bl _; rw [e]; rfl))
theorem ev_lele {i j k : Int} (ha : Ev X a σ S i) (hb : Ev X b σ S j) (hc : Ev X c σ S k) (hm : lastMarks [.LtE, .LtE] [b, c] = false := by with_unfolding_all rfl) : Ev X (.Compare a [.LtE, .LtE] [b, c] pos) σ S (decide (i ≤ j) && decide (j ≤ k)) := ev_chainI (g := fun i j => decide (i ≤ j)) (g' := fun i j => decide (i ≤ j)) op_le op_le ha hb hc hm
theorem et_lele {i j k : Int} (ha : Ev X a σ S i) (hb : Ev X b σ S j) (hc : Ev X c σ S k) (hm : lastMarks [.LtE, .LtE] [b, c] = false := by with_unfolding_all rfl) : EvB X (.Compare a [.LtE, .LtE] [b, c] pos) σ S (decide (i ≤ j) && decide (j ≤ k)) := fun S1 H1 e1 s Q q =>
  WT.of (pt_chain op_le op_le peS peS peS hm) (ha S1 H1 e1 s _ fun v S2 H2 a2 r2 => hb S2 H2 (e1.trans a2.s) a2.i _ fun u S3 H3 a3 r3 => by
    refine ⟨i, j, r2, r3, decide (i ≤ j), rfl, ?_⟩
    cases e : decide (i ≤ j) with
    | true => exact hc S3 H3 ((e1.trans a2.s).trans a3.s) a3.i _ fun w S4 H4 a4 r4 => ⟨j, k, r3, r4, _, rfl, by have z := q S4 H4 ((a2.trans a3).trans a4); rw [e] at z; exact z⟩
    | false => exact ⟨false, rfl, by have z := q S3 H3 (a2.trans a3); rw [e] at z; exact z⟩)
/-- and, or, not as values -/
theorem ev_one {α : Type} [Rep α] {op : BoolOp} {x : α} (h : Ev X a σ S x) : Ev X (.BoolOp op [a] pos) σ S x := fun S1 H1 e1 s Q q => WE.of (pe_one peS) (h S1 H1 e1 s Q q)
theorem ev_and {x y : Bool} (ha : Ev X a σ S x) (hb : x = true → Ev X (.BoolOp .And (b :: rest) pos) σ S y) : Ev X (.BoolOp .And (a :: b :: rest) pos) σ S (x && y) := fun S1 H1 e1 s Q q =>
  WE.of (pe_and peS peS) (ha S1 H1 e1 s _ fun v S2 H2 a2 r2 => ⟨x, r2, by
    cases x with
    | true => exact hb rfl S2 H2 (e1.trans a2.s) a2.i _ fun w S3 H3 a3 r3 => q w S3 H3 (a2.trans a3) r3
    | false => exact q _ S2 H2 a2 rfl⟩)
theorem ev_or {x y : Bool} (ha : Ev X a σ S x) (hb : x = false → Ev X (.BoolOp .Or (b :: rest) pos) σ S y) : Ev X (.BoolOp .Or (a :: b :: rest) pos) σ S (x || y) := fun S1 H1 e1 s Q q =>
  WE.of (pe_or peS peS) (ha S1 H1 e1 s _ fun v S2 H2 a2 r2 => ⟨x, r2, by
    cases x with
    | false => exact hb rfl S2 H2 (e1.trans a2.s) a2.i _ fun w S3 H3 a3 r3 => q w S3 H3 (a2.trans a3) r3
    | true => exact q _ S2 H2 a2 rfl⟩)
theorem ev_not {x : Bool} (ha : Ev X a σ S x) : Ev X (.UnaryOp .Not a pos) σ S (!x) := fun S1 H1 e1 s Q q =>
  WE.of (pe_not peS) (ha S1 H1 e1 s _ fun v S2 H2 a2 r2 => ⟨x, r2, q _ S2 H2 a2 rfl⟩)
/-- tests -/
theorem EvB.to {x y : Bool} (h : EvB X e σ S x) (q : x = y) : EvB X e σ S y := q ▸ h
theorem et_val {x : Bool} (h : Ev X e σ S x) (he : ∀ whole, isTrue e X.env whole = (do let v ← whole; standAt e.pos; holding [v] (truthy v)) := by intro _; rfl) : EvB X e σ S x := fun S1 H1 e1 s Q q =>
  WT.of (pt_val peS he) (h S1 H1 e1 s _ fun v S2 H2 a2 r2 => ⟨x, r2, q S2 H2 a2⟩)
theorem ew_and1 {x : Bool} (h : EvB X a σ S x) : EvW X (.BoolOp .And [a] pos) σ S x := fun S1 H1 e1 s Q q => WW.of (pw_and1 ptS) (h S1 H1 e1 s Q q)
theorem ew_or1 {x : Bool} (h : EvB X a σ S x) : EvW X (.BoolOp .Or [a] pos) σ S x := fun S1 H1 e1 s Q q => WW.of (pw_or1 ptS) (h S1 H1 e1 s Q q)
theorem ew_and {x y : Bool} (ha : EvB X a σ S x) (hb : x = true → EvW X (.BoolOp .And (b :: rest) pos) σ S y) : EvW X (.BoolOp .And (a :: b :: rest) pos) σ S (x && y) := fun S1 H1 e1 s Q q =>
  WW.of (pw_and ptS pwS) (ha S1 H1 e1 s _ fun S2 H2 a2 => by
    cases x with
    | true => exact hb rfl S2 H2 (e1.trans a2.s) a2.i _ fun S3 H3 a3 => q S3 H3 (a2.trans a3)
    | false => exact q S2 H2 a2)
theorem ew_or {x y : Bool} (ha : EvB X a σ S x) (hb : x = false → EvW X (.BoolOp .Or (b :: rest) pos) σ S y) : EvW X (.BoolOp .Or (a :: b :: rest) pos) σ S (x || y) := fun S1 H1 e1 s Q q =>
  WW.of (pw_or ptS pwS) (ha S1 H1 e1 s _ fun S2 H2 a2 => by
    cases x with
    | false => exact hb rfl S2 H2 (e1.trans a2.s) a2.i _ fun S3 H3 a3 => q S3 H3 (a2.trans a3)
    | true => exact q S2 H2 a2)
theorem et_w {x : Bool} (h : EvW X e σ S x) : EvB X e σ S x := fun S1 H1 e1 s Q q => WT.of (PW.pt pwS) (h S1 H1 e1 s Q q)
theorem et_not {x : Bool} (h : EvB X a σ S x) : EvB X (.UnaryOp .Not a pos) σ S (!x) := fun S1 H1 e1 s Q q => WT.of (pt_not ptS) (h S1 H1 e1 s _ fun S2 H2 a2 => q S2 H2 a2)
/-- a if t else b -/
theorem ev_if {α : Type} [Rep α] {t : Bool} {x y : α} (hc : EvB X c σ S t) (ha : t = true → Ev X a σ S x) (hb : t = false → Ev X b σ S y) : Ev X (.IfExp c a b pos) σ S (if t = true then x else y) := fun S1 H1 e1 s Q q =>
  WE.of (pe_ifExp ptS peS peS) (hc S1 H1 e1 s _ fun S2 H2 a2 => by
    cases t with
    | true => exact ha rfl S2 H2 (e1.trans a2.s) a2.i _ fun w S3 H3 a3 r3 => q w S3 H3 (a2.trans a3) r3
    | false => exact hb rfl S2 H2 (e1.trans a2.s) a2.i _ fun w S3 H3 a3 r3 => q w S3 H3 (a2.trans a3) r3)
/-- arguments -/
theorem ea_nil : EvA X [] σ S (fun vs _ => vs = []) := fun S1 H1 _ s Q q => WA.of pa_nil (q _ S1 H1 (At.refl s) rfl)
theorem ea_cons {es : List Expr} {r : V → Hp → Prop} {rs : List V → Hp → Prop} (ha : EvR X e σ S r) (hs : EvA X es σ S rs) (hk : ∀ {v S S'}, Ext S S' → r v S → r v S')
    (hst : starEach (e :: es) X.env = (false, eval e X.env) :: starEach es X.env := by rfl) : EvA X (e :: es) σ S (fun vs S' => ∃ v vs', vs = v :: vs' ∧ r v S' ∧ rs vs' S') := fun S1 H1 e1 s Q q =>
  WA.of (pa_cons peS paS hst) (ha S1 H1 e1 s _ fun v S2 H2 a2 r2 => hs S2 H2 (e1.trans a2.s) a2.i _ fun vs S3 H3 a3 r3 => q _ S3 H3 (a2.trans a3) ⟨v, vs, rfl, hk a3.s r2, r3⟩)
end
end Tl
namespace Tl
open PySem PySem.Spec PyProof.Rows L2
/-! ### defs and their promises -/
/-- where all stands: the program, the world, the written part, the module's names, the base heap -/
structure Gx where
  P : Program
  w : World
  K : PySem.W.Frag
  mg : Str → Option Value
  base : Heap
/-- the context X stands over G -/
structure On (G : Gx) (X : Cx) : Prop where
  P : X.prog = G.P
  w : X.w = G.w
  K : X.K = G.K
  mg : X.mg = G.mg
  base : X.base = G.base
/-- a promise with its def -/
structure Fn (G : Gx) (ps : List Str) (n : Nat) (sp : Sp) (f : Addr) : Prop where
  ex : ∃ fd, FnOk G.P G.w G.K G.mg G.base (L2.CX G.P G.w) n f fd ps sp ∧ Binds G.K fd ps []
  kp : PySem.W.keepIn G.K (.ref f) = true
/-- a def of the module -/
structure Df (G : Gx) (x : Str) (ps : List Str) (n : Nat) (sp : Sp) : Prop where
  ex : ∃ f, G.mg x = some (.ref f) ∧ Fn G ps n sp f
/-- a method of the class x -/
structure Dm (G : Gx) (c m : Str) (ps : List Str) (n : Nat) (sp : Sp) : Prop where
  cl : Cls G.K (clsAt G.mg c)
  ex : ∃ f, Meth G.K (clsAt G.mg c) m f ∧ Fn G ps n sp f
/-- a property of the class x -/
structure Dp (G : Gx) (c m : Str) (n : Nat) (sp : Sp) : Prop where
  cl : Cls G.K (clsAt G.mg c)
  ex : ∃ p g, PropOf G.K (clsAt G.mg c) m p g ∧ Fn G ["self"] n sp g
/-- a class, made by its __init__ -/
structure Dc (G : Gx) (c : Str) (ps : List Str) (n : Nat) (sp : Sp) : Prop where
  mg : G.mg c = some (.ref (clsAt G.mg c))
  cl : Cls G.K (clsAt G.mg c)
  ex : ∃ f, Mk G.K (clsAt G.mg c) f ∧ Fn G ("self" :: ps) n sp f

/-! ### what arguments stand for -/
class Args (α : Type) where
  args : PySem.W.Frag → (Str → Option Value) → Hp → List V → α → Prop
  len : Nat
  ok : ∀ {K mg S vs x}, args K mg S vs x → vs.length = len
  ext : ∀ {K mg S S' vs x}, Ext S S' → args K mg S vs x → args K mg S' vs x
instance : Args Unit where
  args := fun _ _ _ vs _ => vs = []
  len := 0
  ok := fun h => by rw [h]; rfl
  ext := fun _ h => h
instance {α β : Type} [Rep α] [Args β] : Args (α × β) where
  args := fun K mg S vs x => ∃ v r, vs = v :: r ∧ rep K mg S v x.1 ∧ Args.args K mg S r x.2
  len := Args.len β + 1
  ok := fun ⟨v, r, h1, _, h3⟩ => by rw [h1, List.length_cons, Args.ok h3]
  ext := fun e ⟨v, r, h1, h2, h3⟩ => ⟨v, r, h1, rep_ext h2 e, Args.ext e h3⟩
abbrev EvAs {α : Type} [Args α] (X : Cx) (es : List Expr) (σ : L2.St) (S : Hp) (x : α) : Prop := EvA X es σ S fun vs S' => Args.args X.K X.mg S' vs x
section
variable {X : Cx} {a b c e : Expr} {es : List Expr} {σ : L2.St} {S : Hp} {pos : Pos}
theorem eas_nil : EvAs X [] σ S () := ea_nil
theorem eas_cons {α β : Type} [Rep α] [Args β] {x : α} {y : β} (ha : Ev X e σ S x) (hs : EvAs X es σ S y) (hst : starEach (e :: es) X.env = (false, eval e X.env) :: starEach es X.env := by rfl) : EvAs X (e :: es) σ S (x, y) := fun S1 H1 e1 s Q q =>
  ea_cons ha hs (fun k h => rep_ext h k) hst S1 H1 e1 s Q fun vs S2 H2 a2 ⟨v, r, h1, h2, h3⟩ => q vs S2 H2 a2 ⟨v, r, h1, h2, h3⟩
end
/-- the promise: a total function f of the arguments, where pre holds -/
def spF {α β : Type} [Args α] [Rep β] (G : Gx) (pre : α → Prop) (f : α → β) : Sp := fun vs H Q _ => ∃ S x, Sub S H ∧ Args.args G.K G.mg S vs x ∧ pre x ∧ ∀ w S' H', At S H S' H' → rep G.K G.mg S' w (f x) → Q w H'
theorem spF_len {α β : Type} [Args α] [Rep β] {G : Gx} {pre : α → Prop} {f : α → β} {ps : List Str} (h : ps.length = Args.len α) : ∀ vs H Q E, spF G pre f vs H Q E → vs.length = ps.length := fun _ _ _ _ ⟨_, _, _, h1, _⟩ => (Args.ok h1).trans h.symm
section
variable {G : Gx} {X : Cx} {e o : Expr} {es : List Expr} {σ : L2.St} {S : Hp} {p pos apos : Pos} {x m : Str} {ps : List Str} {n : Nat}
theorem Fn.fnok {sp : Sp} {f : Addr} (F : Fn G ps n sp f) (on : On G X) : ∃ fd, FnOk X.prog X.w X.K X.mg X.base (L2.CX X.prog X.w) n f fd ps sp ∧ Binds X.K fd ps [] := by
  obtain ⟨fd, h1, h2⟩ := F.ex
  rw [on.P, on.w, on.K, on.mg, on.base]
  exact ⟨fd, h1, h2⟩
/-- f(e, ..) of a total def -/
theorem ev_call {α β : Type} [Args α] [Rep β] {pre : α → Prop} {f : α → β} {y : α} (on : On G X) (F : Df G x ps n (spF G pre f)) (hr : Room n X.A) (ha : EvAs X (e :: es) σ S y) (hp : pre y) (hg : Gl X x := by rfl)
    (hdb : (x == ("__debug__" : Str)) = false := by decide) (he : starEach (e :: es) X.env = (false, eval e X.env) :: starEach es X.env := by rfl) (hpl : (backTo pos (starEach es X.env)).any (·.1) = false := by rfl) : Ev X (.Call (.Name x p) (e :: es) [] pos) σ S (f y) := fun S1 H1 e1 s Q q => by
  obtain ⟨fa, hm, F⟩ := F.ex
  obtain ⟨fd, h1, h2⟩ := F.fnok on
  refine WE.of (pe_call (dvs := []) (ds := []) (E := E0) h1 hr hg (by rw [on.mg]; exact hm) (by rw [on.K]; exact F.kp) h2 .nil passL paS hdb he hpl) ?_
  refine ha S1 H1 e1 s _ fun vs S2 H2 a2 r2 => ?_
  rw [List.append_nil]
  rw [on.K, on.mg] at r2
  refine ⟨S2, y, a2.i, r2, hp, fun w S3 H3 a3 r3 => q w S3 H3 (a2.trans a3) ?_⟩
  rw [on.K, on.mg]; exact r3
end
end Tl
namespace Tl
open PySem PySem.Spec PyProof.Rows L2
/-- the def's own context -/
abbrev cxF (G : Gx) (N : List Str) (qual : Str) (sc : Scope) (f : Addr) (cdv : Value) (A : Around) (outer : List Env) (s : Shared) (H : Hp) (E : XK) : Cx := cxOf (L2.CX G.P G.w) G.P G.w G.K G.mg G.base N qual sc f cdv A outer s H E
/-- what a body's context tells -/
structure Fc (G : Gx) (X : Cx) (n : Nat) (E : XK) : Prop where
  on : On G X
  calm : X.calm = true
  hr : Room n X.A
  nd : X.N.Nodup
  tk : Takes X (fun cls d _ H => E cls d H)
  po : PassesOwn (model X.prog X.w) X.A X.env X.xe
  st : X.stack = X.env :: X.outer
  ff : X.env.frame = some X.env.locals
theorem Fn.mk_ {G : Gx} {x qual : Str} {st : Stmt} {f : Addr} {fd : FuncData} {N ps : List Str} {n : Nat} {sp : Sp} (F : FunD G.K x qual (defArgs st) (defBody st) (defScope st) [] [] f fd) (S : FnScope N ps (defScope st)) (len : ∀ vs H Q E, sp vs H Q E → vs.length = ps.length)
    (hb : ∀ (kV doc pm : Value) (an : Option Addr) (cdv ct : Value) (us : List Value), us.length = ps.length → bindArgs (PySem.W.fnOf x qual (defArgs st) (defBody st) (defScope st) .none kV doc pm an cdv ct) ⟨us, []⟩ = pure (ps.zip us))
    (hbody : ∀ (cdv : Value) (A : Around) (outer : List Env) (s : Shared) (H : Hp) (vs : List V) (Q : VK) (E : XK), Fc G (cxF G N qual (defScope st) f cdv A outer s H E) n E → sp vs H Q E →
      WSs (cxF G N qual (defScope st) f cdv A outer s H E) (defBody st) { nx := fun _ H' => Q .non H', rt := Q } (start N vs) H) : Fn G ps (n + 1) sp f := by
  refine ⟨⟨fd, F.ok (CX := L2.CX G.P G.w) S len fun cdv A outer s H vs Q E hr h => ⟨_, pssS, hbody cdv A outer s H vs Q E ⟨⟨rfl, rfl, rfl, rfl, rfl⟩, rfl, hr, S.nd, takes_of rfl rfl rfl rfl, passes_of rfl, rfl, rfl⟩ h⟩, F.bindsN hb⟩, F.kp⟩
section
variable {X : Cx} {e : Expr} {σ : L2.St} {S H : Hp} {D : Ends} {pos : Pos} {rest : List Stmt}
theorem ws_ret {r : V → Hp → Prop} (he : EvR X e σ S r) (s : Sub S H) (k : ∀ v S' H', At S H S' H' → r v S' → D.rt v H') : WSs X (.Return (some e) pos :: rest) D σ H :=
  WSs.seq (WS.of (ps_ret peS) (he S H (Ext.refl S) s _ k))
theorem ws_expr {r : V → Hp → Prop} (he : EvR X e σ S r) (s : Sub S H) (k : ∀ v S' H', At S H S' H' → r v S' → WSs X rest D σ H') (hs : swapsWith e none pos.line X.env = pure false := by rfl) : WSs X (.Expr e pos :: rest) D σ H :=
  WSs.seq (WS.of (ps_expr peS hs) (he S H (Ext.refl S) s _ k))
theorem ws_if {c : Expr} {a b : List Stmt} {t : Bool} (hc : EvB X c σ S t) (s : Sub S H) (k : ∀ S' H', At S H S' H' → if t = true then WSs X a { D with nx := WSs X rest D } σ H' else WSs X b { D with nx := WSs X rest D } σ H') : WSs X (.If c a b pos :: rest) D σ H := by
  refine WSs.seq (WS.of (ps_if ptS pssS pssS) (hc S H (Ext.refl S) s _ fun S' H' a => ?_))
  exact k S' H' a
theorem ws_set {i : Nat} {x : Str} {pos' : Pos} {r : V → Hp → Prop} (nd : X.N.Nodup) (he : EvR X e σ S r) (s : Sub S H) (k : ∀ v S' H', At S H S' H' → r v S' → WSs X rest D (σ.set i (some v)) H')
    (hi : X.N[i]? = some x := by rfl) (hx : Loc X.env.scope x := by first | exact Or.inl rfl | exact Or.inr rfl) (hs : swapsWith e (some (.Name x pos')) pos.line X.env = pure false := by rfl) (hf : X.fn x = true ∨ X.env.scope.names.lookup x = some .local := by first | exact .inl rfl | exact .inr rfl) : WSs X (.Assign [.Name x pos'] e pos :: rest) D σ H :=
  WSs.seq (WS.of (ps_set nd hi hx peS hs hf) (he S H (Ext.refl S) s _ k))
end
end Tl
namespace Tl
open PySem PySem.Spec PyProof.Rows L2
/-- any value -/
inductive D where
  | non | bl (b : Bool) | int (i : Int) | str (s : Str) | lst (xs : List D) | tup (xs : List D) | dct
mutual
def D.rep (S : Hp) : D → V → Prop
  | .non, v => v = .non
  | .bl b, v => v = .bl b
  | .int i, v => v = .int i
  | .str s, v => v = .str s
  | .lst xs, v => ∃ a ys, v = .ref a ∧ S a = some (.lst ys) ∧ D.reps S xs ys ∧ xs.length ≤ sizeLine
  | .tup xs, v => ∃ a ys, v = .ref a ∧ S a = some (.tup ys) ∧ D.reps S xs ys
  | .dct, v => ∃ a, v = .ref a ∧ S a = some (.dK [])
def D.reps (S : Hp) : List D → List V → Prop
  | [], vs => vs = []
  | x :: xs, vs => ∃ v r, vs = v :: r ∧ D.rep S x v ∧ D.reps S xs r
end
mutual
theorem D.rep_ext {S S' : Hp} (e : Ext S S') : ∀ (d : D) (v : V), D.rep S d v → D.rep S' d v
  | .non, v, h => h
  | .bl _, v, h => h
  | .int _, v, h => h
  | .str _, v, h => h
  | .lst xs, v, h => by
    obtain ⟨a, ys, h1, h2, h3⟩ : ∃ a ys, v = .ref a ∧ S a = some (.lst ys) ∧ D.reps S xs ys ∧ xs.length ≤ sizeLine := h
    exact ⟨a, ys, h1, e _ _ h2, D.reps_ext e xs ys h3.1, h3.2⟩
  | .tup xs, v, h => by
    obtain ⟨a, ys, h1, h2, h3⟩ : ∃ a ys, v = .ref a ∧ S a = some (.tup ys) ∧ D.reps S xs ys := h
    exact ⟨a, ys, h1, e _ _ h2, D.reps_ext e xs ys h3⟩
  | .dct, v, h => by
    obtain ⟨a, h1, h2⟩ : ∃ a, v = .ref a ∧ S a = some (.dK []) := h
    exact ⟨a, h1, e _ _ h2⟩
theorem D.reps_ext {S S' : Hp} (e : Ext S S') : ∀ (ds : List D) (vs : List V), D.reps S ds vs → D.reps S' ds vs
  | [], vs, h => h
  | d :: ds, vs, h => by
    obtain ⟨v, r, h1, h2, h3⟩ : ∃ v r, vs = v :: r ∧ D.rep S d v ∧ D.reps S ds r := h
    exact ⟨v, r, h1, D.rep_ext e d v h2, D.reps_ext e ds r h3⟩
end
theorem D.reps_len {S : Hp} : ∀ (ds : List D) (vs : List V), D.reps S ds vs → vs.length = ds.length
  | [], vs, h => by rw [show vs = [] from h]; rfl
  | d :: ds, vs, h => by
    obtain ⟨v, r, h1, h2, h3⟩ : ∃ v r, vs = v :: r ∧ D.rep S d v ∧ D.reps S ds r := h
    rw [h1, List.length_cons, List.length_cons, D.reps_len ds r h3]
instance : Rep D where
  rep := fun _ _ S v x => D.rep S x v
  ext := fun e h => D.rep_ext e _ _ h
/-- its built-in type -/
def D.ty : D → String
  | .non => "NoneType" | .bl _ => "bool" | .int _ => "int" | .str _ => "str" | .lst _ => "list" | .tup _ => "tuple" | .dct => "dict"
theorem D.tyx {K : PySem.W.Frag} {mg : Str → Option Value} {S H : Hp} {v : V} {d : D} (h : Tl.rep K mg S v d) (s : Sub S H) : TyX K H v (.type d.ty) := by
  have h' : D.rep S d v := h
  cases d with
  | non => rw [show v = .non from h']; exact .base .non
  | bl b => rw [show v = .bl b from h']; exact .base (.bl b)
  | int i => rw [show v = .int i from h']; exact .base (.int i)
  | str i => rw [show v = .str i from h']; exact .base (.str i)
  | lst xs =>
    obtain ⟨a, ys, h1, h2, h3⟩ : ∃ a ys, v = .ref a ∧ S a = some (.lst ys) ∧ D.reps S xs ys ∧ xs.length ≤ sizeLine := h'
    rw [h1]
    rcases s.old h2 with q | ⟨_, ob, q⟩
    · exact .base (.lst q)
    · exact .base (.frz q)
  | tup xs =>
    obtain ⟨a, ys, h1, h2, h3⟩ : ∃ a ys, v = .ref a ∧ S a = some (.tup ys) ∧ D.reps S xs ys := h'
    rw [h1]
    exact .base (.tup (s.tupE h2))
  | dct =>
    obtain ⟨a, h1, h2⟩ : ∃ a, v = .ref a ∧ S a = some (.dK []) := h'
    rw [h1]
    rcases s.old h2 with q | ⟨_, ob, q⟩
    · exact .base (.dK q)
    · exact .fDict q
/-- isinstance of any value, a built-in class -/
def isInt : D → Bool | .int _ => true | .bl _ => true | _ => false
def isBool : D → Bool | .bl _ => true | _ => false
def isStr : D → Bool | .str _ => true | _ => false
def isList : D → Bool | .lst _ => true | _ => false
def isTuple : D → Bool | .tup _ => true | _ => false
def isDict : D → Bool | .dct => true | _ => false
theorem kt (a b : String) (r : Bool) (h : kitB a b = some r) : kitB a b = some r := h
theorem kit_int : ∀ d : D, kitB d.ty "int" = some (isInt d)
  | .non => kt "NoneType" "int" false (by decide +kernel)
  | .bl _ => kt "bool" "int" true (by decide +kernel)
  | .int _ => kt "int" "int" true (by decide +kernel)
  | .str _ => kt "str" "int" false (by decide +kernel)
  | .lst _ => kt "list" "int" false (by decide +kernel)
  | .tup _ => kt "tuple" "int" false (by decide +kernel)
  | .dct => kt "dict" "int" false (by decide +kernel)
theorem kit_bool : ∀ d : D, kitB d.ty "bool" = some (isBool d)
  | .non => kt "NoneType" "bool" false (by decide +kernel)
  | .bl _ => kt "bool" "bool" true (by decide +kernel)
  | .int _ => kt "int" "bool" false (by decide +kernel)
  | .str _ => kt "str" "bool" false (by decide +kernel)
  | .lst _ => kt "list" "bool" false (by decide +kernel)
  | .tup _ => kt "tuple" "bool" false (by decide +kernel)
  | .dct => kt "dict" "bool" false (by decide +kernel)
theorem kit_str : ∀ d : D, kitB d.ty "str" = some (isStr d)
  | .non => kt "NoneType" "str" false (by decide +kernel)
  | .bl _ => kt "bool" "str" false (by decide +kernel)
  | .int _ => kt "int" "str" false (by decide +kernel)
  | .str _ => kt "str" "str" true (by decide +kernel)
  | .lst _ => kt "list" "str" false (by decide +kernel)
  | .tup _ => kt "tuple" "str" false (by decide +kernel)
  | .dct => kt "dict" "str" false (by decide +kernel)
theorem kit_list : ∀ d : D, kitB d.ty "list" = some (isList d)
  | .non => kt "NoneType" "list" false (by decide +kernel)
  | .bl _ => kt "bool" "list" false (by decide +kernel)
  | .int _ => kt "int" "list" false (by decide +kernel)
  | .str _ => kt "str" "list" false (by decide +kernel)
  | .lst _ => kt "list" "list" true (by decide +kernel)
  | .tup _ => kt "tuple" "list" false (by decide +kernel)
  | .dct => kt "dict" "list" false (by decide +kernel)
theorem kit_tuple : ∀ d : D, kitB d.ty "tuple" = some (isTuple d)
  | .non => kt "NoneType" "tuple" false (by decide +kernel)
  | .bl _ => kt "bool" "tuple" false (by decide +kernel)
  | .int _ => kt "int" "tuple" false (by decide +kernel)
  | .str _ => kt "str" "tuple" false (by decide +kernel)
  | .lst _ => kt "list" "tuple" false (by decide +kernel)
  | .tup _ => kt "tuple" "tuple" true (by decide +kernel)
  | .dct => kt "dict" "tuple" false (by decide +kernel)
theorem kit_dict : ∀ d : D, kitB d.ty "dict" = some (isDict d)
  | .non => kt "NoneType" "dict" false (by decide +kernel)
  | .bl _ => kt "bool" "dict" false (by decide +kernel)
  | .int _ => kt "int" "dict" false (by decide +kernel)
  | .str _ => kt "str" "dict" false (by decide +kernel)
  | .lst _ => kt "list" "dict" false (by decide +kernel)
  | .tup _ => kt "tuple" "dict" false (by decide +kernel)
  | .dct => kt "dict" "dict" true (by decide +kernel)
section
variable {X : Cx} {e : Expr} {σ : L2.St} {S : Hp} {p p2 pos : Pos}
theorem ev_isi {d : D} {t : String} {x : Str} {is : D → Bool} (hk : ∀ d : D, kitB d.ty t = some (is d)) (hb : bootBuiltins x = some (.type t)) (hm : X.mg "isinstance" = none) (hx : X.mg x = none) (he : Ev X e σ S d)
    (hg : Gl X "isinstance" := by rfl) (hg2 : Gl X x := by rfl) (hn : x ≠ "__name__" := by decide) (hd : (x == ("__debug__" : Str)) = false := by decide)
    (hst : starEach (e :: [.Name x p2]) X.env = (false, eval e X.env) :: starEach [.Name x p2] X.env := by rfl) (hst2 : starEach (.Name x p2 :: []) X.env = (false, eval (.Name x p2) X.env) :: starEach [] X.env := by rfl) (hpl : (backTo pos (starEach [.Name x p2] X.env)).any (·.1) = false := by rfl) :
    Ev X (.Call (.Name "isinstance" p) [e, .Name x p2] [] pos) σ S (is d) := fun S1 H1 e1 s Q q => by
  refine WE.of (pe_callB call_isi hg hm (by decide +kernel) (pa_cons peS (pa_cons (pe_bltn (v := .ty t) hg2 hx hb rfl hn hd) pa_nil hst2) hst) (by decide) (by decide) hst hpl) ?_
  refine he S1 H1 e1 s _ fun v S2 H2 a2 r2 => ?_
  exact ⟨v, .ty t, .type d.ty, .type t, is d, rfl, .ty t, D.tyx r2 a2.i, kit_ty (hk d), q _ S2 H2 a2 rfl⟩
end
theorem bt_int : bootBuiltins "int" = some (.type "int") := by decide +kernel
theorem bt_bool : bootBuiltins "bool" = some (.type "bool") := by decide +kernel
theorem bt_str : bootBuiltins "str" = some (.type "str") := by decide +kernel
theorem bt_list : bootBuiltins "list" = some (.type "list") := by decide +kernel
theorem bt_tuple : bootBuiltins "tuple" = some (.type "tuple") := by decide +kernel
theorem bt_dict : bootBuiltins "dict" = some (.type "dict") := by decide +kernel
end Tl
namespace Tl
open PySem PySem.Spec PyProof.Rows L2
/-! ### what is walked -/
def WI (X : Cx) (tg iter : Expr) : TI := fun σ H R => ∀ pins s, Inv X pins σ H s →
  wpAny (model X.prog X.w) X.A (eval iter X.env) (fun v s1 => wpAny (model X.prog X.w) X.A (pyIter v) (PIE X pins σ tg R) X.xe s1) X.xe s
theorem piS {X : Cx} {tg iter : Expr} : PI X tg iter (WI X tg iter) := ⟨fun pins s _ _ _ I h => h pins s I⟩
theorem WI.of {X : Cx} {tg iter : Expr} {wi : TI} {σ : L2.St} {H : Hp} {R : It → Hp → Prop} (h : PI X tg iter wi) (q : wi σ H R) : WI X tg iter σ H R := fun pins s I => h.run pins s σ H R I q
/-- J hands out what stands for xs, one by one -/
def Yields {α : Type} [Rep α] (K : PySem.W.Frag) (mg : Str → Option Value) (J : It) (S2 H2 : Hp) (xs : List α) : Prop := ∀ i S' H, Ext S2 S' → Sub S' H → Frz H2 H →
  (∀ x, xs[i]? = some x → J.go i H ∧ ∀ v H', J.yld i H v H' → ∃ S'', At S' H S'' H' ∧ rep K mg S'' v x) ∧ (xs.length ≤ i → J.stop i H)
/-- walking iter, from heaps with L -/
def EvI {α : Type} [Rep α] (L : Hp → Prop) (X : Cx) (tg iter : Expr) (σ : L2.St) (S : Hp) (xs : List α) : Prop := ∀ S1 H1, Ext S S1 → Sub S1 H1 → L H1 → ∀ R : It → Hp → Prop,
  (∀ J S2 H2, At S1 H1 S2 H2 → Yields X.K X.mg J S2 H2 xs → R J H2) → WI X tg iter σ H1 R
abbrev LT : Hp → Prop := fun _ => True
section
variable {X : Cx} {tg iter : Expr} {σ : L2.St} {S : Hp}
theorem ei_list {α : Type} [Rep α] {xs : List α} (h : Ev X iter σ S xs) : EvI LT X tg iter σ S xs := fun S1 H1 e1 s _ R q =>
  WI.of (pi_list peS) (h S1 H1 e1 s _ fun v S2 H2 a2 r2 => by
    obtain ⟨a, ys, h1, h2, h3, _⟩ : ∃ a ys, v = .ref a ∧ S2 a = some (.lst ys) ∧ Reps X.K X.mg S2 ys xs ∧ xs.length ≤ sizeLine := r2
    refine ⟨a, h1, ⟨ys, a2.i.lst h2⟩, q _ S2 H2 a2 fun i S' H bs bi _ => ⟨fun x hx => ?_, fun hl => ?_⟩⟩
    · obtain ⟨v', hv, rv⟩ := h3.get hx
      have sq : SqL X.K H a ys := bi.lst (bs a _ h2)
      refine ⟨⟨ys, v', sq, hv⟩, fun w H' hy => ?_⟩
      obtain ⟨eH, hy⟩ := hy
      have ew : some w = some v' := (hy ys sq).symm.trans hv
      cases ew
      rw [eH]
      exact ⟨S', At.refl bi, rep_ext rv bs⟩
    · exact ⟨ys, bi.lst (bs a _ h2), by rw [h3.len]; exact hl⟩)
theorem ei_rng1 {n : Int} (hm : X.mg "range" = none) {p pos : Pos} {a : Expr} (ha : Ev X a σ S n) (h2 : n < 2 ^ 62) (h1 : -(2 ^ 62) ≤ n) (hg : Gl X "range" := by rfl)
    (hs : starEach [a] X.env = [(false, eval a X.env)] := by rfl) (hs' : starEach (a :: []) X.env = (false, eval a X.env) :: starEach [] X.env := by rfl) : EvI LT X tg (.Call (.Name "range" p) [a] [] pos) σ S ((List.range n.toNat).map fun (k : Nat) => (k : Int)) := fun S1 H1 e1 s _ R q =>
  WI.of (pi_range1 hg hm (pa_cons peS pa_nil hs') hs) (ha S1 H1 e1 s _ fun v S2 H2 a2 r2 => by
    refine ⟨n, by rw [show v = .int n from r2], h1, h2, q _ S2 H2 a2 fun i S' H _ bi _ => ⟨fun x hx => ?_, fun hl => ?_⟩⟩
    · have hi : i < n.toNat := by
        have := (List.getElem?_eq_some_iff.mp hx).1
        simpa using this
      have ex : x = (i : Int) := by
        rw [List.getElem?_map, List.getElem?_range hi] at hx
        exact (Option.some.inj hx).symm
      refine ⟨hi, fun w H' hy => ?_⟩
      obtain ⟨eH, ew⟩ := hy
      rw [eH]
      exact ⟨S', At.refl bi, by show w = .int x; rw [ew, ex]; simp⟩
    · show n.toNat ≤ i
      simpa using hl)
end
/-! ### list comprehensions -/
theorem wipe_set {σ : L2.St} {i : Nat} {x : Option V} : ∀ {vs : List Nat}, i ∈ vs → wipe (σ.set i x) vs = wipe σ vs
  | v :: vs, h => by
    unfold wipe
    by_cases e : i = v
    · subst e
      by_cases h2 : i ∈ vs
      · rw [wipe_set h2]
      · have : ∀ ws : List Nat, i ∉ ws → wipe (σ.set i x) ws = (wipe σ ws).set i x := by
          intro ws
          induction ws with
          | nil => intro _; rfl
          | cons w ws ih =>
            intro hw
            unfold wipe
            rw [ih (fun z => hw (List.mem_cons_of_mem _ z)), List.set_comm _ _ (fun z => hw (by rw [z]; exact List.mem_cons_self))]
        rw [this vs h2, List.set_set]
    · rcases List.mem_cons.mp h with z | z
      · exact absurd z e
      · rw [wipe_set z]
theorem wipe_wipe {σ : L2.St} : ∀ {vs ws : List Nat}, (∀ v ∈ ws, v ∈ vs) → wipe (wipe σ ws) vs = wipe σ vs
  | vs, [], _ => rfl
  | vs, w :: ws, h => by
    show wipe ((wipe σ ws).set w none) vs = _
    rw [wipe_set (h w List.mem_cons_self)]
    exact wipe_wipe fun v hv => h v (List.mem_cons_of_mem _ hv)
abbrev Blk (X : Cx) (scope : Scope) (P : Cx → Prop) : Prop := ∀ (s : Shared) (H : Hp) (C : Addr) (cl : List (Str × Addr)) (fp : List Addr), P (X.blk s H scope (compEnvC scope cl C X.env) fp)
theorem take_succ' {α : Type} {xs : List α} {i : Nat} {x : α} (h : xs[i]? = some x) : xs.take (i + 1) = xs.take i ++ [x] := by
  rw [List.take_add_one, h]; rfl
section
variable {X : Cx} {σ : L2.St} {S : Hp} {elt tg iter : Expr} {ifs : List Expr} {scope : Scope} {own : List (Str × Nat)} {pos : Pos}
/-- at H, where the walk may begin -/
theorem lc_at {α β : Type} [Rep α] [Rep β] {L : Hp → Prop} {xs : List α} {p : α → Bool} {f : α → β} {g : TG} {Gd : Hp → α → L2.St → Prop} (hc : X.calm = true) (nd : X.N.Nodup) (ok : BlkOk X.N X.env.scope scope own) (hi : EvI L X tg iter σ S xs) (hl : xs.length ≤ sizeLine)
    (hg : Blk X scope fun Y => PG Y tg g) (ht : ∀ S' v x H Q, Ext S S' → x ∈ xs → rep X.K X.mg S' v x → Sub S' H → (∀ σ', wipe σ' (own.map (·.2)) = wipe σ (own.map (·.2)) → Gd S' x σ' → Q σ' H) → g v (wipe σ (own.map (·.2))) H Q)
    (htt : ∃ tt, (Blk X scope fun Y => PTs Y ifs tt) ∧ ∀ x S1 σ', x ∈ xs → Ext S S1 → Gd S1 x σ' → ∀ H1, Sub S1 H1 → ∀ Q : Bool → Hp → Prop, (∀ S2 H2, At S1 H1 S2 H2 → Q (p x) H2) → tt σ' H1 Q)
    (hee : ∃ te, (Blk X scope fun Y => PE Y elt te) ∧ ∀ x S1 σ', x ∈ xs → p x = true → Ext S S1 → Gd S1 x σ' → ∀ H1, Sub S1 H1 → ∀ Q : VK, (∀ v S2 H2, At S1 H1 S2 H2 → rep X.K X.mg S2 v (f x) → Q v H2) → te σ' H1 Q)
    (gx : ∀ {S1 S2 x σ'}, Ext S1 S2 → Gd S1 x σ' → Gd S2 x σ')
    (hs : ∀ x, foldedSetIterable iter X.env x = pure x) :
    ∀ S1 H1, Ext S S1 → Sub S1 H1 → L H1 → ∀ Q : VK, (∀ v S2 H2, At S1 H1 S2 H2 → rep X.K X.mg S2 v ((xs.filter p).map f) → Q v H2) → WE X (.ListComp elt [⟨tg, iter, ifs, 0⟩] scope pos) σ H1 Q := by
  intro S1 H1 e1 s hL Q q
  obtain ⟨tt, pt, kt⟩ := htt
  obtain ⟨te, pe, ke⟩ := hee
  refine WE.of (pe_lc hc nd piS ok hg pt pe hs) (hi S1 H1 e1 s hL _ fun J S2 H2 a2 Y D hD => ?_)
  -- the invariant
  let Pv : Nat → Hp → Prop := fun k H => k ≤ xs.length ∧ ∃ S' acc, At S2 H2 S' H ∧ S' D = none ∧ H D = some (.lst acc) ∧ Reps X.K X.mg S' acc (((xs.take k).filter p).map f)
  refine ⟨fun i m H => m = xs.length - i ∧ Pv i H, ⟨xs.length, by simp, Nat.zero_le _, S2, [], At.apart a2.i hD, a2.i.out hD, upd_same, by simpa using Reps.nil⟩, ?_⟩
  rintro i m H ⟨rfl, hik, S', acc, b, hSD, hHD, racc⟩
  by_cases hlt : i < xs.length
  · refine .inr ?_
    have hx : xs[i]? = some xs[i] := List.getElem?_eq_getElem hlt
    have mem : xs[i] ∈ xs := List.getElem_mem hlt
    obtain ⟨go, yl⟩ := (Y i S' H b.s b.i (b.z)).1 _ hx
    refine ⟨go, Pv (i + 1), fun H' p' => ⟨xs.length - (i + 1), by omega, rfl, p'⟩, fun v H' hy => ?_⟩
    obtain ⟨S3, a3, r3⟩ := yl v H' hy
    have e3 : Ext S S3 := ((e1.trans a2.s).trans b.s).trans a3.s
    refine ht S3 v xs[i] H' _ e3 mem r3 a3.i fun σ' hw hG => ⟨hw, ?_⟩
    refine kt xs[i] S3 σ' mem e3 hG H' a3.i _ fun S4 H4 a4 => ?_
    have b4 := (b.trans a3).trans a4
    have o4 : S4 D = none := (a3.trans a4).out hSD hHD
    have h4 : H4 D = some (.lst acc) := (a3.trans a4).hown hHD hSD
    have tk := take_succ' hx
    cases hp : p xs[i] with
    | false =>
      show Pv (i + 1) H4
      refine ⟨hlt, S4, acc, b4, o4, h4, ?_⟩
      rw [tk, List.filter_append, List.filter_cons_of_neg (by rw [hp]; simp), List.filter_nil, List.append_nil]
      exact racc.ext (a3.trans a4).s
    | true =>
      show te σ' H4 _
      refine ke xs[i] S4 σ' mem hp (e3.trans a4.s) (gx a4.s hG) H4 a4.i _ fun w S5 H5 a5 r5 => ?_
      have o5 : S5 D = none := a5.out o4 h4
      have h5 : H5 D = some (.lst acc) := a5.hown h4 o4
      refine ⟨acc, h5, ?_, hlt, S5, acc ++ [w], (b4.trans a5).put hD o5, o5, upd_same, ?_⟩
      · rw [racc.len, List.length_map]
        refine Nat.lt_of_le_of_lt (List.length_filter_le _ _) ?_
        rw [List.length_take]; omega
      · rw [tk, List.filter_append, List.filter_cons_of_pos hp, List.filter_nil, List.map_append]
        exact (racc.ext ((a3.trans a4).trans a5).s).app (.cons r5 .nil)
  · have ei : i = xs.length := by omega
    subst ei
    refine .inl ⟨(Y _ S' H b.s b.i (b.z)).2 (Nat.le_refl _), ?_⟩
    have bb := b.settle hD hHD hSD
    refine q _ (upd S' D (.lst acc)) H (a2.trans bb) ⟨D, acc, rfl, upd_same, ?_, ?_⟩
    · rw [List.take_length] at racc
      exact racc.ext (ext_new hSD)
    · rw [List.length_map]
      exact Nat.le_trans (List.length_filter_le _ _) hl
theorem blk_name {i : Nat} {x : Str} {tpos : Pos} (nd : X.N.Nodup) (hN : X.N[i]? = some x) (hx : scope.names.lookup x = some .local) : Blk X scope fun Y => PG Y (.Name x tpos) (gName i) := fun s H C cl fp => by
  have e : (compEnvC scope cl C X.env).scope.names.lookup x = some .local := lookup_relS_keep (by decide) hx
  exact pg_name nd hN (.inl e) (.inr e)
theorem tt_yes {Y : Cx} : PTs Y [] tYes := pts_nil
/-- a target of one name, no test -/
theorem ev_lc {α β : Type} [Rep α] [Rep β] {xs : List α} {f : α → β} (i : Nat) {x : Str} {tpos : Pos} (hc : X.calm = true) (nd : X.N.Nodup) (hi : EvI LT X (.Name x tpos) iter σ S xs) (hl : xs.length ≤ sizeLine)
    (he : ∀ x v S', x ∈ xs → Ext S S' → rep X.K X.mg S' v x → Blk X scope fun Y => Ev Y elt ((wipe σ [i]).set i (some v)) S' (f x))
    (hN : X.N[i]? = some x := by rfl) (ok : BlkOk X.N X.env.scope scope [(x, i)]) (hx : scope.names.lookup x = some .local := by rfl)
    (hs : ∀ x, foldedSetIterable iter X.env x = pure x := by intro _; rfl) : Ev X (.ListComp elt [⟨.Name x tpos, iter, [], 0⟩] scope pos) σ S (xs.map f) := fun S1 H1 e1 s Q q => by
  refine lc_at (L := LT) (p := fun _ => true) (f := f) (own := [(x, i)]) (g := gName i) (Gd := fun S' x σ' => ∃ v, rep X.K X.mg S' v x ∧ σ' = (wipe σ [i]).set i (some v)) hc nd ok hi hl (blk_name nd hN hx)
    (fun S' v x H Q _ _ r _ k => k _ (by show wipe ((wipe σ [i]).set i (some v)) [i] = wipe σ [i]; rw [wipe_set List.mem_cons_self]; exact wipe_wipe fun v hv => hv) ⟨v, r, rfl⟩)
    ⟨tYes, fun _ _ _ _ _ => pts_nil, fun x S1 σ' _ _ _ H1 s1 Q q => q S1 H1 (At.refl s1)⟩
    ⟨fun σ' H Q => ∃ S1 x v, x ∈ xs ∧ Ext S S1 ∧ rep X.K X.mg S1 v x ∧ σ' = (wipe σ [i]).set i (some v) ∧ Sub S1 H ∧ ∀ v S2 H2, At S1 H S2 H2 → rep X.K X.mg S2 v (f x) → Q v H2, fun s H C cl fp => ⟨fun pins s' σ' H' Q I hh => ?_⟩, fun x S1 σ' hx _ ex ⟨v, rv, ev⟩ H1 s1 Q q => ⟨S1, x, v, hx, ex, rv, ev, s1, q⟩⟩
    (fun e ⟨v, r, z⟩ => ⟨v, rep_ext r e, z⟩) hs S1 H1 e1 s trivial Q fun v S2 H2 a2 r2 => q v S2 H2 a2 (by rw [List.filter_eq_self.mpr (fun _ _ => rfl)] at r2; exact r2)
  obtain ⟨S1', x', v, hx, ex, rv, rfl, sb, k⟩ := hh
  exact he x' v S1' hx ex rv s H C cl fp S1' H' (Ext.refl _) sb Q k pins s' I
/-- .. with a test -/
theorem ev_lcT {α β : Type} [Rep α] [Rep β] {xs : List α} {f : α → β} {p : α → Bool} (i : Nat) {x : Str} {tpos : Pos} {c : Expr} (hc : X.calm = true) (nd : X.N.Nodup) (hi : EvI LT X (.Name x tpos) iter σ S xs) (hl : xs.length ≤ sizeLine)
    (ht : ∀ x v S', x ∈ xs → Ext S S' → rep X.K X.mg S' v x → Blk X scope fun Y => EvB Y c ((wipe σ [i]).set i (some v)) S' (p x))
    (he : ∀ x v S', x ∈ xs → p x = true → Ext S S' → rep X.K X.mg S' v x → Blk X scope fun Y => Ev Y elt ((wipe σ [i]).set i (some v)) S' (f x))
    (hN : X.N[i]? = some x := by rfl) (ok : BlkOk X.N X.env.scope scope [(x, i)]) (hx : scope.names.lookup x = some .local := by rfl)
    (hs : ∀ x, foldedSetIterable iter X.env x = pure x := by intro _; rfl) : Ev X (.ListComp elt [⟨.Name x tpos, iter, [c], 0⟩] scope pos) σ S ((xs.filter p).map f) := fun S1 H1 e1 s Q q => by
  refine lc_at (L := LT) (p := p) (f := f) (own := [(x, i)]) (g := gName i) (Gd := fun S' x σ' => ∃ v, rep X.K X.mg S' v x ∧ σ' = (wipe σ [i]).set i (some v)) hc nd ok hi hl (blk_name nd hN hx)
    (fun S' v x H Q _ _ r _ k => k _ (by show wipe ((wipe σ [i]).set i (some v)) [i] = wipe σ [i]; rw [wipe_set List.mem_cons_self]; exact wipe_wipe fun v hv => hv) ⟨v, r, rfl⟩)
    ⟨fun σ' H Q => ∃ S1 x v, x ∈ xs ∧ Ext S S1 ∧ rep X.K X.mg S1 v x ∧ σ' = (wipe σ [i]).set i (some v) ∧ Sub S1 H ∧ ∀ S2 H2, At S1 H S2 H2 → Q (p x) H2, fun s H C cl fp => pts_one ⟨fun pins s' σ' H' Q I hh => ?_⟩, fun x S1 σ' hx ex ⟨v, rv, ev⟩ H1 s1 Q q => ⟨S1, x, v, hx, ex, rv, ev, s1, q⟩⟩
    ⟨fun σ' H Q => ∃ S1 x v, x ∈ xs ∧ p x = true ∧ Ext S S1 ∧ rep X.K X.mg S1 v x ∧ σ' = (wipe σ [i]).set i (some v) ∧ Sub S1 H ∧ ∀ v S2 H2, At S1 H S2 H2 → rep X.K X.mg S2 v (f x) → Q v H2, fun s H C cl fp => ⟨fun pins s' σ' H' Q I hh => ?_⟩, fun x S1 σ' hx hp ex ⟨v, rv, ev⟩ H1 s1 Q q => ⟨S1, x, v, hx, hp, ex, rv, ev, s1, q⟩⟩
    (fun e ⟨v, r, z⟩ => ⟨v, rep_ext r e, z⟩) hs S1 H1 e1 s trivial Q q
  · obtain ⟨S1', x', v, hx, ex, rv, rfl, sb, k⟩ := hh
    exact ht x' v S1' hx ex rv s H C cl fp S1' H' (Ext.refl _) sb Q k pins s' I
  · obtain ⟨S1', x', v, hx, hp, ex, rv, rfl, sb, k⟩ := hh
    exact he x' v S1' hx hp ex rv s H C cl fp S1' H' (Ext.refl _) sb Q k pins s' I
end
end Tl
namespace Tl
open PySem PySem.Spec PyProof.Rows L2
/-! ### dict comprehensions whose keys are tuples of ints and texts -/
section
variable {X : Cx} {pins : List (Addr × Obj)} {σ : L2.St} {H : Hp} {s : Shared}
/-- the store of such a comprehension -/
theorem dset_tup {E : Value → Shared → Prop} {D b : Addr} {kvs : List (List Key × V)} {k : List Key} {v : V} {r : Value} {Q : Unit → Shared → Prop} (hu : X.A.units + 1 < cLine) (J : Inv X pins σ H s) (at_ : H D = some (.dT kvs)) (few : kvs.length < sizeLine)
    (eb : H b = some (.tup (k.map kV))) (rv : RelV v r) (fin : ∀ t, Inv X pins σ (upd H D (.dT (putK kvs k v))) t → Q () t) : wpAny (model X.prog X.w) X.A (dictSet D (.ref b) r) Q E s := by
  obtain ⟨z, nosys, xs, rel, dd⟩ := dt_of J.hok at_
  have room : xs.length ≤ sizeLine := Paired.length rel ▸ z
  have grown : (putK kvs k v).length ≤ sizeLine := Nat.le_trans (length_putK kvs k v) few
  refine wpAny_dictSet_heap (hsz := room) (show X.A.units < cLine by omega) (key_of J.hok eb) dd fun h2 dd2 same => fin _ ?_
  obtain ⟨o2, es, ep, g1, g2, g3, g4, _, g5⟩ := dd2
  have other : ∀ c ys, H c = some (.tup ys) → (upd H D (.dT (putK kvs k v))) c = some (.tup ys) := fun c ys ec => (upd_ne (ne_of ec at_ (fun q => by cases q))).trans ec
  exact d_write J (by rw [at_]; trivial) same ⟨o2, g1⟩ ⟨grown, nosys, _, (rel.put k eb rv).keeps other, o2, es, ep, g1, g2, g3, g4, g5⟩
end
/-- {k: v for target in iter if ..}, keys tuples: D is the new dict, W the invariant by turn and measure -/
def tDcT (wi : TI) (g : TG) (tt : TT) (tk tv : TE) (vs : List Nat) : TE := fun σ H Q => wi σ H fun J H1 => ∀ D, H1 D = none → ∃ W : Nat → Nat → Hp → Prop, (∃ m, W 0 m (upd H1 D (.dT []))) ∧
  ∀ i m G, W i m G → (J.stop i G ∧ Q (.ref D) G) ∨ (J.go i G ∧ ∃ Nx : Hp → Prop, (∀ G', Nx G' → ∃ m', m' < m ∧ W (i + 1) m' G') ∧
    ∀ x G', J.yld i G x G' → g x (wipe σ vs) G' fun σ2 G2 => wipe σ2 vs = wipe σ vs ∧ tt σ2 G2 fun ok G3 => if ok = true then tk σ2 G3 fun y G4 => tv σ2 G4 fun z G5 =>
      ∃ (kvs : List (List Key × V)) (k : List Key) (b : Addr), y = .ref b ∧ G5 b = some (.tup (k.map kV)) ∧ G5 D = some (.dT kvs) ∧ kvs.length < sizeLine ∧ Nx (upd G5 D (.dT (putK kvs k z))) else Nx G3)
section
variable {X : Cx}
theorem pe_dcT {kx vx tg iter : Expr} {ifs : List Expr} {scope : Scope} {own : List (Str × Nat)} {pos : Pos} {wi : TI} {g : TG} {tt : TT} {tk tv : TE} (hu : X.A.units + 1 < cLine) (hc : X.calm = true) (nd : X.N.Nodup) (hi : PI X tg iter wi) (ok : BlkOk X.N X.env.scope scope own)
    (hg : Blk X scope fun Y => PG Y tg g) (ht : Blk X scope fun Y => PTs Y ifs tt) (hk : Blk X scope fun Y => PE Y kx tk) (hv : Blk X scope fun Y => PE Y vx tv) (hs : ∀ x, foldedSetIterable iter X.env x = pure x := by intro _; rfl) :
    PE X (.DictComp kx vx [⟨tg, iter, ifs, 0⟩] scope pos) (tDcT wi g tt tk tv (own.map (·.2))) := by
  refine ⟨fun pins s σ H Q I asked => ?_⟩
  rw [arm_eval_DictComp]
  have caught : ∀ y ∈ scope.names, y.2 = .free → ∃ c, X.env.cells.lookup y.1 = some c := fun y hy e => I.ok.has _ (ok.free y hy e)
  refine wpAny_comprehension_free (use := none) rfl hs (closure_ok caught) ok.kind (fun y hy e => (ok.uniq y hy).trans (by rw [e])) ?_
  refine thn (hi.run pins s σ H _ I asked) fun _ s1 began => thn began fun itv s2 there => ?_
  obtain ⟨it, fp, tn, J, H2, rfl, I2, T, st2, f2, wish⟩ := there
  refine wpAny_newObj_type (newEnv_comp ?_)
  -- the new dict's place, the state with it
  obtain ⟨D, hD⟩ : ∃ D, s2.heap.objs.size = D := ⟨_, rfl⟩
  have dNew : H2 D = none := I2.hok.fresh (Nat.le_of_eq hD)
  obtain ⟨W, ⟨m0, w0⟩, turn⟩ := wish D dNew
  obtain ⟨s3, hs3⟩ : ∃ s3 : Shared, { s2 with heap := s2.heap.push { cls := .type "dict", data := .dict #[] } } = s3 := ⟨_, rfl⟩
  obtain ⟨H3, hH3⟩ : ∃ H3, upd H2 D (.dT []) = H3 := ⟨_, rfl⟩
  have heap3 : s3.heap = s2.heap.push { cls := .type "dict", data := .dict #[] } := by rw [← hs3]
  have I3 : Inv X pins σ H3 s3 := by
    rw [← hs3, ← hH3]
    refine I2.laid (t' := s2.toks) (fun b o e => Heap.get?_push_of_some _ e) (Nat.le_of_eq hD) ?_
    rw [← hD]
    exact dt_empty s2.heap I2.big
  have below : ∀ b ∈ fp, b < s2.heap.objs.size := fun b hb => let ⟨_, e, _⟩ := T.obj _ _ st2 b hb; Heap.lt_size e
  have walk3 : ∀ b ∈ fp, FpOk X pins H3 b ∧ b < s3.heap.objs.size := fun b hb => by
    refine ⟨⟨?_, (f2 b hb).2⟩, by rw [heap3, Heap.size_push]; exact Nat.lt_succ_of_lt (below b hb)⟩
    rw [← hH3, upd_ne (Nat.ne_of_lt (Nat.lt_of_lt_of_le (below b hb) (Nat.le_of_eq hD)))]
    exact (f2 b hb).1
  have I4 := block_start I3 ok nd walk3
  -- the block's own environment
  obtain ⟨cl, hcl⟩ : ∃ cl, cellsFrom (s3.heap.objs.size + 1) scope.names (cloFrom X.env.cells scope.names []) = cl := ⟨_, rfl⟩
  rw [hD] at *
  rw [hs3]
  rw [hcl] at I4
  rw [hcl]
  have bg := hg s3 H3 s3.heap.objs.size cl fp
  have bt := ht s3 H3 s3.heap.objs.size cl fp
  have bk := hk s3 H3 s3.heap.objs.size cl fp
  have bv := hv s3 H3 s3.heap.objs.size cl fp
  show codeAny _ _ (.compStart (.DictComp kx vx [⟨tg, iter, ifs, 0⟩] scope pos) 0 (.ref it) (.ref D) (compEnvC scope cl s3.heap.objs.size X.env)) (compPost (model X.prog X.w) X.A X.xe none (EP X pins σ Q) (.ref D) s3.heap.objs.size) { s3 with heap := pushCells (s3.heap.push { cls := .type "dict", data := .dict #[] }) scope.names }
  obtain ⟨ce, hce⟩ : ∃ ce, compEnvC scope cl s3.heap.objs.size X.env = ce := ⟨_, rfl⟩
  have ceAt : ce.locals = s3.heap.objs.size := by rw [← hce]; rfl
  rw [hce] at I4 bg bt bk bv
  rw [hce]
  obtain ⟨s4, hs4⟩ : ∃ s4 : Shared, { s3 with heap := pushCells (s3.heap.push { cls := .type "dict", data := .dict #[] }) scope.names } = s4 := ⟨_, rfl⟩
  rw [hs4] at I4
  rw [hs4]
  have st3 : tn 0 s3.heap := T.keep _ _ _ st2 fun b _ o e => by rw [heap3]; exact Heap.get?_push_of_some _ e
  have st4 : tn 0 s4.heap := T.keep _ _ _ st3 fun b _ o e => by rw [← hs4]; exact pushCells_keeps _ _ _ _ (Heap.get?_push_of_some _ e)
  let Y : Cx := X.blk s3 H3 scope ce fp
  have steady : ∀ {σ' : L2.St} {G : Hp} {t : Shared}, Inv Y [] σ' G t → (∀ b ∈ fp, G b = none) → ∀ b ∈ fp, FpOk Y [] G b := fun {σ' G t} I' n b hb =>
    ⟨n b hb, (I'.ok.exf b hb).1, I'.ok.exfs b hb, .inl hb, (I'.ok.exf b hb).2, fun p hp => by simp [Y] at hp⟩
  have loop : codeAny (model X.prog X.w) X.A (.compLoop (.DictComp kx vx [⟨tg, iter, ifs, 0⟩] scope pos) 0 (.ref it) (.ref D) ce) (compPost (model X.prog X.w) X.A X.xe none (EP X pins σ Q) (.ref D) s3.heap.objs.size) s4 := by
    refine compLoop_anyD (fun n t => ∃ i G, Inv Y [] (wipe σ (own.map (·.2))) G t ∧ tn i t.heap ∧ (∀ b ∈ fp, G b = none) ∧ W i n G) ?_ m0 ⟨0, H3, I4, st4, fun b hb => (walk3 b hb).1.1, hH3 ▸ w0⟩
    rintro n t ⟨i, G, It, stt, nt, wt⟩
    rcases turn i n G wt with ⟨stop, qq⟩ | ⟨go, Nx, later, step⟩
    · refine thnF (T.done Y rfl rfl rfl hc i [] t _ G (fun _ _ => False) It (steady It nt) stt stop) fun r t2 ⟨hr, It2⟩ => ?_
      subst hr
      have back : Inv X pins σ G t2 := I3.call' (ch := fp) It2.os It2.base It2.hok It2.bare fun b hb =>
        have z := (walk3 b hb).1
        ⟨z.2.2.2.1, z.2.1, z.2.2.2.2.1, z.2.2.2.2.2⟩
      have frameFree : G s3.heap.objs.size = none := ceAt ▸ It2.free
      obtain ⟨mm, hn, _⟩ := It2.loc
      have hn' : t2.heap.Ns s3.heap.objs.size mm := ceAt ▸ hn
      obtain ⟨g0, g1, _, g3, g4, g5⟩ := I3.fpOk (Nat.le_refl _) frameFree
      exact ⟨mm, hn', fun h2 sb => ⟨.ref D, G, back.turned (t' := t2.toks) (fun b o hb e => (sb.2 b hb).trans e) g0 g1 g3 g4 g5, rfl, qq⟩⟩
    · refine thnF (T.item Y rfl rfl rfl hc i [] t _ G (fun _ _ => False) It (steady It nt) stt go) fun r t2 ⟨u, hr, h2⟩ => ?_
      subst hr
      refine thnF h2 fun _ t3 ⟨x, G3, It3, r3, y3, st3', n3⟩ => ?_
      have pinned := It3.pinned (steady It3 n3) (T.obj _ _ st3')
      refine thnF (bg.run _ t3 _ G3 x u _ pinned r3 (step x G3 y3)) fun _ t4 ⟨σ4, G4, It4, same, q4⟩ => ?_
      refine thnF (bt.run _ t4 σ4 G4 _ It4 q4) fun yes t5 ⟨G5, It5, q5⟩ => ?_
      have again : ∀ {t' : Shared} {G' : Hp}, Inv Y ([] ++ pinsAt fp t3.heap) σ4 G' t' → Nx G' → ∃ m, m < n ∧ ∃ i G', Inv Y [] (wipe σ (own.map (·.2))) G' t' ∧ tn i t'.heap ∧ (∀ b ∈ fp, G' b = none) ∧ W i m G' := fun {t' G'} I' nx => by
        obtain ⟨m', lt, w'⟩ := later G' nx
        have stays : ∀ b ∈ fp, ∀ o, t3.heap.get? b = some o → t'.heap.get? b = some o ∧ G' b = none := fun b hb o e =>
          have z := I'.pin (b, o) (List.mem_append_right _ (List.mem_append_right _ (mem_pinsAt hb e)))
          ⟨z.1, z.2.1⟩
        refine ⟨m', lt, i + 1, G', (I'.unpinned (pins := [])).weak (by rw [← same, wipe_length]) (fun j v e => (wipe_some (by rw [same]; exact e)).1), T.keep _ _ _ st3' fun b hb o e => (stays b hb o e).1, fun b hb => ?_, w'⟩
        obtain ⟨o, e, _⟩ := T.obj _ _ st3' b hb
        exact (stays b hb o e).2
      cases yes with
      | false => exact again It5 (by simpa using q5)
      | true =>
        have q5' := q5
        simp only [if_true] at q5'
        show wpAny _ _ _ _ _ _
        refine thnF (bk.run _ t5 σ4 G5 _ It5 q5') fun ku t6 ⟨yk, G6, It6, r6, q6⟩ => ?_
        refine thnF (bv.run _ t6 σ4 G6 _ It6 q6) fun vu t7 ⟨yv, G7, It7, r7, kvs, k, b, ek, hb, hD7, few, nx⟩ => ?_
        subst ek
        cases (show ku = Value.ref b from r6)
        exact dset_tup (X := Y) hu It7 hD7 few hb r7 fun t8 It8 => again It8 nx
  exact codeAny_compStart_dict loop (T.self X.A 0 _ _ _ st4 loop)
end
end Tl
namespace Tl
open PySem PySem.Spec PyProof.Rows L2
open PySem.W (EachIs)
/-! ### sorted -/
/-- the order of pairs of ints -/
def le2 (a b : Int × Int) : Bool := decide (a.1 < b.1 ∨ (a.1 = b.1 ∧ a.2 ≤ b.2))
def enc2 (k : Int × Int) : PyData := .tuple [.int k.1, .int k.2]
theorem le2_data : PySem.W.dataLe false enc2 = le2 := PySem.W.dataLe_ii (β := Int × Int) Prod.fst Prod.snd
/-- a pair of ints stands at v -/
def PairV (H : Hp) (v : V) (k : Int × Int) : Prop := ∃ t, v = .ref t ∧ H t = some (.tup [.int k.1, .int k.2])
def PairU (H : Hp) (u : Value) (k : Int × Int) : Prop := ∃ t, u = .ref t ∧ H t = some (.tup [.int k.1, .int k.2])
theorem pairs_vals {H : Hp} {us : List Value} {ks : List (Int × Int)} (h : EachIs (PairU H) us ks) : ∃ ys, Vals ys us ∧ EachIs (PairV H) ys ks := by
  induction h with
  | nil => exact ⟨[], .nil, .nil⟩
  | cons h _ ih =>
    obtain ⟨t, rfl, ht⟩ := h
    obtain ⟨ys, h1, h2⟩ := ih
    exact ⟨.ref t :: ys, .cons rfl h1, .cons ⟨t, rfl, ht⟩ h2⟩
theorem pair_reads {P : Program} {w : World} {H : Hp} {h : Heap} (ok : HOk P w H h) {us : List Value} {ks : List (Int × Int)} (e : EachIs (PairU H) us ks) : EachIs (fun v b => ∃ as, Reads h v (enc2 b) as ∧ as = []) us ks := by
  induction e with
  | nil => exact .nil
  | cons q _ ih =>
    refine .cons ?_ ih
    obtain ⟨t, rfl, ht⟩ := q
    obtain ⟨_, its, rv, o, g1, g2, n, g3⟩ := (show ObjOk P w H h t (.tup _) from ok t _ ht)
    refine ⟨[], ?_, rfl⟩
    cases rv with
    | cons r1 rr =>
      cases rr with
      | cons r2 rr =>
        cases rr
        obtain ⟨t1, rfl⟩ := r1
        obtain ⟨t2, rfl⟩ := r2
        exact Reads.tuple (as := []) g1 g2 g3 (by rw [show (#[Value.int _ t1, Value.int _ t2] : Array Value) = _ from rfl]; exact .cons (as := []) (bs := []) (.int _ _) (.cons (as := []) (bs := []) (.int _ _) .nil))
theorem each_get {α β : Type} {R : α → β → Prop} : ∀ {as : List α} {bs : List β}, as.length = bs.length → (∀ (j : Nat) a b, as[j]? = some a → bs[j]? = some b → R a b) → EachIs R as bs
  | [], [], _, _ => .nil
  | a :: as, b :: bs, h, k => .cons (k 0 a b rfl rfl) (each_get (by simpa using h) fun j x y h1 h2 => k (j + 1) x y (by simpa using h1) (by simpa using h2))
  | [], _ :: _, h, _ => by simp at h
  | _ :: _, [], h, _ => by simp at h
theorem pairs_alike (ks : List (Int × Int)) : PySem.W.AllAlike (ks.map enc2) := by
  intro d hd d' hd'
  obtain ⟨a, _, rfl⟩ := List.mem_map.mp hd
  obtain ⟨b, _, rfl⟩ := List.mem_map.mp hd'
  rfl
theorem pairs_sortable (ks : List (Int × Int)) : PySem.W.Sortable (ks.map enc2) := .inl fun d hd => by
  obtain ⟨a, _, rfl⟩ := List.mem_map.mp hd
  exact ⟨_, _, rfl⟩
def rSortD : List V → Hp → VK → Prop := fun xs H Q => ∃ (a : Addr) (kvs : List (List Key × V)) (ks : List (Int × Int)), xs = [.ref a] ∧ Rd H a (.dT kvs) ∧ kvs.map (·.1) = (ks.map fun k => ([.inl k.1, .inl k.2] : List Key)) ∧
  ∀ p ys, H p = none → EachIs (PairV H) ys (ks.mergeSort le2) → Q (.ref p) (upd H p (.lst ys))
/-- sorted(d), d's keys pairs of ints -/
theorem cr_sortedDT {X : Cx} (hu : X.A.units + 64 < cLine) (hcalm : X.calm = true) : CallR X (.builtin "sorted") rSortD := by
  intro pins s σ H xs us Q I r q
  obtain ⟨a, kvs, ks, rfl, hd, hks, q⟩ := q
  obtain ⟨u, rfl, rx⟩ := Vals.one r
  cases (show u = Value.ref a from rx)
  obtain ⟨z, lo, ents, rel, dd⟩ := dt_rd I.hok hd
  obtain ⟨o, es, ep, g1, g2, g3, g4, g5, g6⟩ := dd
  have raw : s.heap.DictRaw a es ep := ⟨o, g1, g2, g3⟩
  have hsz : es.size = ks.length := by
    have e1 := congrArg List.length hks
    have e2 := congrArg List.length g4
    have e3 := Paired.length rel
    simp at e1 e2
    omega
  have h16 : es.size ≤ sizeLine := by
    have e1 := congrArg List.length hks
    simp at e1
    omega
  refine Calls.call_function_entry (b := Builtin.«sorted») PyProof.Rows.kind_sorted PyProof.Rows.plain_sorted PyProof.Rows.entry_sorted (PyProof.Rows.args_sorted1 _) (wpAny_bind (m := checkCount "sorted" 1 1 _) (wpAny_pure ?_))
  refine wpAny_bind (PySem.W.kdu_collect (A := X.A.in1) (PySem.KdlSrc.rawDict (es := es) (ep := ep) lo) (I.ok.hd hcalm) raw h16 fun h' tk acc hk hacc => ?_)
  have each : EachIs (PairU H) acc.toList ks := by
    have hl : acc.toList.length = ks.length := by rw [Array.length_toList, hacc.1, hsz]
    refine each_get hl fun j v k ev ek => ?_
    obtain ⟨hj, ev2⟩ := hacc.2 j v (by rw [← Array.getElem?_toList]; exact ev)
    have e1 : (kvs.map (·.1))[j]? = some [.inl k.1, .inl k.2] := by rw [hks, List.getElem?_map, ek]; rfl
    rw [List.getElem?_map] at e1
    cases q1 : kvs[j]? with
    | none => rw [q1] at e1; cases e1
    | some kv =>
      rw [q1] at e1
      have e2 : kv.1 = [.inl k.1, .inl k.2] := Option.some.inj e1
      obtain ⟨en, q2, q3, q4, _⟩ := paired_get rel q1
      have q5 := PySem.entry_at (knd := tupleKind (mixKind X.prog X.w)) g4 j
      rw [q2, Array.getElem?_eq_getElem hj] at q5
      have q6 : es[j] = PySem.entryOfKey (tupleKind (mixKind X.prog X.w)) en := Option.some.inj q5
      refine ⟨en.2.1, by rw [ev2, q6]; rfl, ?_⟩
      rw [q4, e2]; rfl
  have I1 : Inv X pins σ H { s with heap := h', toks := tk } := I.kept hk
  have hal : acc.toList.length = ks.length := by rw [Array.length_toList, hacc.1, hsz]
  refine wpAny_bind (wpAny_newList ?_ (by rw [hal, ← hsz]; exact h16))
  have hoL : (h'.push (seqObj "list" acc.toList.toArray 0)).get? h'.objs.size = some (seqObj "list" acc.toList.toArray 0) := Heap.get?_push_size _ rfl
  have I2 : Inv X pins σ H { s with heap := h'.push (seqObj "list" acc.toList.toArray 0), toks := tk } := I1.kept (t' := tk) fun b u e => Heap.get?_push_of_some _ e
  show wpAny _ _ _ _ _ { s with heap := h'.push (seqObj "list" acc.toList.toArray 0), toks := tk }
  have rd := (pair_reads I2.hok each).mono (R' := fun v b => ∃ as, Reads (h'.push (seqObj "list" acc.toList.toArray 0)) v (enc2 b) as ∧ h'.objs.size ∉ as) fun v b ⟨as, g, ea⟩ => ⟨as, g, by rw [ea]; simp⟩
  refine wpAny_bind (wpAny_holding (PySem.W.list_sort_data (s := { s with heap := h'.push (seqObj "list" acc.toList.toArray 0), toks := tk }) (R := PairU H) (enc := enc2) hoL each rd (pairs_alike ks) (pairs_sortable ks) (by rw [← hsz]; exact h16)
    (fun b _ => by show X.A.units + 1 + 1 + _ < cLine; have e : (enc2 b).depth ≤ 2 := (by exact Nat.le_of_ble_eq_true rfl); omega) fun out ho eo => ?_))
  rw [le2_data] at eo
  obtain ⟨ys, rv, ey⟩ := pairs_vals eo
  obtain ⟨e', he'⟩ := PyProof.Rows.sortedHeap_at (vs := acc.toList) (out := out.toArray) hoL
  have hlen : ys.length ≤ sizeLine := by rw [rv.length, ho, ← hsz]; exact h16
  refine wpAny_pure ⟨_, rfl, .ref h'.objs.size, upd H h'.objs.size (.lst ys), I1.laid (t' := tk) (fun b u e => ?_) (Nat.le_refl _)
    (show ObjOk X.prog X.w _ _ _ (.lst ys) from ⟨hlen, out, e', rv, he'⟩), rfl, q _ ys (I1.hok.fresh (Nat.le_refl _)) ey⟩
  have hb : b < h'.objs.size := Heap.lt_size e
  rw [PyProof.Rows.sortedHeap_old (Nat.ne_of_lt hb) (by rw [size_push']; exact Nat.lt_succ_of_lt hb)]
  exact Heap.get?_push_of_some _ e
end Tl
namespace Tl
open PySem PySem.Spec PyProof.Rows L2
open PySem.W (EachIs)
/-! ### sorted, typed -/
def rSortP (K : PySem.W.Frag) : List V → Hp → VK → Prop := fun vs H Q => ∃ (a : Addr) (xs : List V) (ks : List (Int × Int)), vs = [.ref a] ∧ SqL K H a xs ∧ EachIs (PairV H) xs ks ∧
  ∀ p ys, H p = none → EachIs (PairV H) ys (ks.mergeSort le2) → Q (.ref p) (upd H p (.lst ys))
theorem pairs_back {H : Hp} {xs : List V} {ks : List (Int × Int)} (h : EachIs (PairV H) xs ks) : ∀ {us : List Value}, Vals xs us → EachIs (PairU H) us ks := by
  induction h with
  | nil => intro us r; cases r; exact .nil
  | cons h _ ih =>
    intro us r
    cases r with
    | cons r1 rr =>
      obtain ⟨t, rfl, ht⟩ := h
      cases (show _ = Value.ref t from r1)
      exact .cons ⟨t, rfl, ht⟩ (ih rr)
theorem cr_sortedLP {X : Cx} (hu : X.A.units + 64 < cLine) : CallR X (.builtin "sorted") (rSortP X.K) := by
  intro pins s σ H vs us Q I r q
  obtain ⟨a, xs, ks, rfl, hq, each, q⟩ := q
  obtain ⟨u, rfl, rx⟩ := Vals.one r
  cases (show u = Value.ref a from rx)
  obtain ⟨its, rv, pl, hz⟩ := I.list hq
  have eu := pairs_back each rv
  have hl : ks.length ≤ sizeLine := by rw [← eu.length, ← rv.length]; exact hz
  have rd := (pair_reads I.hok eu).mono (R' := fun v b => ∃ as, Reads s.heap v (enc2 b) as) fun v b ⟨as, g, _⟩ => ⟨as, g⟩
  refine PySem.W.sorted_data (R := PairU H) (enc := enc2) pl.isList eu rd (pairs_alike ks) (pairs_sortable ks) hl (fun b _ => by have e : (enc2 b).depth ≤ 2 := (by exact Nat.le_of_ble_eq_true rfl); omega) fun out ho eo => ?_
  rw [le2_data] at eo
  obtain ⟨ys, rv2, ey⟩ := pairs_vals eo
  obtain ⟨c, hc⟩ := PyProof.Rows.sortedAll_at s.heap its out.toArray
  have none1 : H (s.heap.objs.size + 1) = none := I.hok.fresh (Nat.le_succ _)
  exact ⟨.ref (s.heap.objs.size + 1), upd H (s.heap.objs.size + 1) (.lst ys), I.laid (t' := s.toks) (fun b u e => PyProof.Rows.sortedAll_old e) (Nat.le_succ _) (show ObjOk X.prog X.w _ _ _ (.lst ys) from ⟨by rw [rv2.length, ho]; exact hl, out, c, rv2, hc⟩), rfl, q _ ys none1 ey⟩
/-- pairs, stable: what PairV says in H may be said in a larger S -/
theorem pairs_settle {K : PySem.W.Frag} {mg : Str → Option Value} {S0 H0 S H : Hp} {ys : List V} {ks : List (Int × Int)} (e : EachIs (PairV H) ys ks) : At S0 H0 S H → ∃ S', At S0 H0 S' H ∧ Ext S S' ∧ Reps K mg S' ys ks := by
  induction e with
  | nil => intro a; exact ⟨S, a, Ext.refl S, .nil⟩
  | cons h _ ih =>
    intro a
    obtain ⟨S1, a1, e1, r1⟩ := ih a
    obtain ⟨t, rfl, ht⟩ := h
    obtain ⟨S2, a2, e2, h2⟩ := a1.tuple ht
    exact ⟨S2, a2, e1.trans e2, .cons ⟨t, _, _, rfl, h2, rfl, rfl⟩ (r1.ext e2)⟩
theorem pairs_of_reps {K : PySem.W.Frag} {mg : Str → Option Value} {S H : Hp} {ys : List V} {ks : List (Int × Int)} (s : Sub S H) (r : Reps K mg S ys ks) : EachIs (PairV H) ys ks := by
  induction r with
  | nil => exact .nil
  | cons h _ ih =>
    obtain ⟨t, y, z, h1, h2, h3, h4⟩ := h
    exact .cons ⟨t, h1, by rw [s.tupE h2, show y = _ from h3, show z = _ from h4]⟩ ih
theorem dkeys_pairs {K : PySem.W.Frag} {mg : Str → Option Value} {S : Hp} {α : Type} [Rep α] {ys : List (List Key × V)} {xs : List ((Int × Int) × α)} (r : DReps K mg S ys xs) : ys.map (·.1) = ((xs.map (·.1)).map fun k => ([.inl k.1, .inl k.2] : List Key)) := by
  rw [r.keys, List.map_map]; rfl
section
variable {X : Cx} {a b c e : Expr} {es : List Expr} {σ : L2.St} {S : Hp} {p p2 pos : Pos}
/-- a built-in with one argument -/
theorem ev_b1 {α β : Type} [Rep α] [Rep β] {x : α} {y : β} {f : Str} {id : String} {r : List V → Hp → VK → Prop} (hc : CallR X (.builtin id) r) (ha : Ev X a σ S x)
    (hr : ∀ v S2 H2, Ext S S2 → Sub S2 H2 → rep X.K X.mg S2 v x → ∀ Q : VK, (∀ w S3 H3, At S2 H2 S3 H3 → rep X.K X.mg S3 w y → Q w H3) → r [v] H2 Q)
    (hm : X.mg f = none) (hv : bootBuiltins f = some (.builtin id)) (hg : Gl X f) (hn : f ≠ "__name__") (hdb : (f == ("__debug__" : Str)) = false)
    (he : starEach (a :: []) X.env = (false, eval a X.env) :: starEach [] X.env) (hpl : (backTo pos (starEach [] X.env)).any (·.1) = false) : Ev X (.Call (.Name f p) [a] [] pos) σ S y := fun S1 H1 e1 s Q q =>
  WE.of (pe_callB hc hg hm hv (pa_cons peS pa_nil he) hn hdb he hpl) (ha S1 H1 e1 s _ fun v S2 H2 a2 r2 => hr v S2 H2 (e1.trans a2.s) a2.i r2 Q fun w S3 H3 a3 r3 => q w S3 H3 (a2.trans a3) r3)
theorem ev_t1 {α β : Type} [Rep α] [Rep β] {x : α} {y : β} {f : Str} {T : String} {r : List V → Hp → VK → Prop} (hc : CallR X (.type T) r) (ha : Ev X a σ S x)
    (hr : ∀ v S2 H2, Ext S S2 → Sub S2 H2 → rep X.K X.mg S2 v x → ∀ Q : VK, (∀ w S3 H3, At S2 H2 S3 H3 → rep X.K X.mg S3 w y → Q w H3) → r [v] H2 Q)
    (hm : X.mg f = none) (hv : bootBuiltins f = some (.type T)) (hg : Gl X f) (hn : f ≠ "__name__") (hdb : (f == ("__debug__" : Str)) = false)
    (he : starEach (a :: []) X.env = (false, eval a X.env) :: starEach [] X.env) (hpl : (backTo pos (starEach [] X.env)).any (·.1) = false) : Ev X (.Call (.Name f p) [a] [] pos) σ S y := fun S1 H1 e1 s Q q =>
  WE.of (pe_callTy hc hg hm hv (pa_cons peS pa_nil he) hn hdb he hpl) (ha S1 H1 e1 s _ fun v S2 H2 a2 r2 => hr v S2 H2 (e1.trans a2.s) a2.i r2 Q fun w S3 H3 a3 r3 => q w S3 H3 (a2.trans a3) r3)
theorem bt_len : bootBuiltins "len" = some (.builtin "len") := by decide +kernel
theorem bt_all : bootBuiltins "all" = some (.builtin "all") := by decide +kernel
theorem bt_any : bootBuiltins "any" = some (.builtin "any") := by decide +kernel
theorem bt_sum : bootBuiltins "sum" = some (.builtin "sum") := by decide +kernel
theorem bt_sorted : bootBuiltins "sorted" = some (.builtin "sorted") := by decide +kernel
theorem bt_max : bootBuiltins "max" = some (.builtin "max") := by decide +kernel
theorem bt_min : bootBuiltins "min" = some (.builtin "min") := by decide +kernel
theorem bt_abs : bootBuiltins "abs" = some (.builtin "abs") := by decide +kernel
theorem ev_len {α : Type} [Rep α] {x : List α} (hm : X.mg "len" = none) (ha : Ev X a σ S x) (hg : Gl X "len" := by rfl) (he : starEach (a :: []) X.env = (false, eval a X.env) :: starEach [] X.env := by rfl) (hpl : (backTo pos (starEach [] X.env)).any (·.1) = false := by rfl) :
    Ev X (.Call (.Name "len" p) [a] [] pos) σ S (x.length : Int) :=
  ev_b1 call_len_seq ha (fun v S2 H2 _ s ⟨a, ys, h1, h2, h3, _⟩ Q q => ⟨a, ys, by rw [h1], .inl (s.lst h2), q _ S2 H2 (At.refl s) (by show V.int _ = V.int _; rw [h3.len])⟩) hm bt_len hg (by decide) (by decide) he hpl
theorem reps_bl {K : PySem.W.Frag} {mg : Str → Option Value} {S : Hp} {ys : List V} {xs : List Bool} (h : Reps K mg S ys xs) : ys = xs.map V.bl := by
  induction h with
  | nil => rfl
  | cons h _ ih => rw [List.map_cons, ih]; congr 1
theorem reps_int {K : PySem.W.Frag} {mg : Str → Option Value} {S : Hp} {ys : List V} {xs : List Int} (h : Reps K mg S ys xs) : ys = xs.map V.int := by
  induction h with
  | nil => rfl
  | cons h _ ih => rw [List.map_cons, ih]; congr 1
theorem ev_all {x : List Bool} (hc : X.calm = true) (hm : X.mg "all" = none) (ha : Ev X a σ S x) (hg : Gl X "all" := by rfl) (he : starEach (a :: []) X.env = (false, eval a X.env) :: starEach [] X.env := by rfl) (hpl : (backTo pos (starEach [] X.env)).any (·.1) = false := by rfl) :
    Ev X (.Call (.Name "all" p) [a] [] pos) σ S (x.all id) :=
  ev_b1 (cr_all hc) ha (fun v S2 H2 _ s ⟨a, ys, h1, h2, h3, _⟩ Q q => ⟨a, x, by rw [h1], by rw [← reps_bl h3]; exact s.lst h2, q _ S2 H2 (At.refl s) rfl⟩) hm bt_all hg (by decide) (by decide) he hpl
theorem ev_any {x : List Bool} (hc : X.calm = true) (hm : X.mg "any" = none) (ha : Ev X a σ S x) (hg : Gl X "any" := by rfl) (he : starEach (a :: []) X.env = (false, eval a X.env) :: starEach [] X.env := by rfl) (hpl : (backTo pos (starEach [] X.env)).any (·.1) = false := by rfl) :
    Ev X (.Call (.Name "any" p) [a] [] pos) σ S (x.any id) :=
  ev_b1 (cr_any hc) ha (fun v S2 H2 _ s ⟨a, ys, h1, h2, h3, _⟩ Q q => ⟨a, x, by rw [h1], by rw [← reps_bl h3]; exact s.lst h2, q _ S2 H2 (At.refl s) rfl⟩) hm bt_any hg (by decide) (by decide) he hpl
theorem ev_sum {x : List Int} (hc : X.calm = true) (hm : X.mg "sum" = none) (ha : Ev X a σ S x) (hg : Gl X "sum" := by rfl) (he : starEach (a :: []) X.env = (false, eval a X.env) :: starEach [] X.env := by rfl) (hpl : (backTo pos (starEach [] X.env)).any (·.1) = false := by rfl) :
    Ev X (.Call (.Name "sum" p) [a] [] pos) σ S x.sum :=
  ev_b1 (cr_sum hc) ha (fun v S2 H2 _ s ⟨a, ys, h1, h2, h3, _⟩ Q q => ⟨a, x, by rw [h1], by rw [← reps_int h3]; exact s.lst h2, q _ S2 H2 (At.refl s) rfl⟩) hm bt_sum hg (by decide) (by decide) he hpl
/-- a list that is new: it stays apart, its items are stable -/
def EvN {α : Type} [Rep α] (X : Cx) (e : Expr) (σ : L2.St) (S : Hp) (x : List α) : Prop := ∀ S1 H1, Ext S S1 → Sub S1 H1 → ∀ Q : VK, (∀ l S2 H2 ys, At S1 H1 S2 H2 → H1 l = none → S2 l = none → H2 l = some (.lst ys) → Reps X.K X.mg S2 ys x → x.length ≤ sizeLine → Q (.ref l) H2) → WE X e σ H1 Q
theorem EvN.ev {α : Type} [Rep α] {x : List α} (h : EvN X e σ S x) : Ev X e σ S x := fun S1 H1 e1 s Q q => h S1 H1 e1 s Q fun l S2 H2 ys a2 n1 n2 h2 r2 z => q _ _ H2 (a2.settle n1 h2 n2) ⟨l, ys, rfl, upd_same, r2.ext (ext_new n2), z⟩
theorem EvN.to {α : Type} [Rep α] {x y : List α} (h : EvN X e σ S x) (q : x = y) : EvN X e σ S y := q ▸ h
/-- list(xs) -/
theorem en_list {α : Type} [Rep α] {x : List α} (hm : X.mg "list" = none) (ha : Ev X a σ S x) (hg : Gl X "list" := by rfl) (he : starEach (a :: []) X.env = (false, eval a X.env) :: starEach [] X.env := by rfl) (hpl : (backTo pos (starEach [] X.env)).any (·.1) = false := by rfl) :
    EvN X (.Call (.Name "list" p) [a] [] pos) σ S x := fun S1 H1 e1 s Q q =>
  WE.of (pe_callTy call_list_of hg hm bt_list (pa_cons peS pa_nil he) (by decide) (by decide) he hpl) (ha S1 H1 e1 s _ fun v S2 H2 a2 ⟨l, ys, h1, h2, h3, h4⟩ =>
    ⟨l, ys, by rw [h1], .inl (a2.i.lst h2), fun q' hq => q q' S2 (upd H2 q' (.lst ys)) ys (a2.trans (At.apart a2.i hq)) (a2.non hq) (a2.i.out hq) upd_same h3 h4⟩)
/-- sorted of a dict's keys, of a list: pairs of ints -/
theorem en_sortedD {α : Type} [Rep α] {x : Dict (Int × Int) α} (hu : X.A.units + 64 < cLine) (hcalm : X.calm = true) (hm : X.mg "sorted" = none) (ha : Ev X a σ S x) (hg : Gl X "sorted" := by rfl) (he : starEach (a :: []) X.env = (false, eval a X.env) :: starEach [] X.env := by rfl) (hpl : (backTo pos (starEach [] X.env)).any (·.1) = false := by rfl) :
    EvN X (.Call (.Name "sorted" p) [a] [] pos) σ S ((x.kvs.map (·.1)).mergeSort le2) := fun S1 H1 e1 s Q q =>
  WE.of (pe_callB (cr_sortedDT hu hcalm) hg hm bt_sorted (pa_cons peS pa_nil he) (by decide) (by decide) he hpl) (ha S1 H1 e1 s _ fun v S2 H2 a2 r2 => by
    obtain ⟨d, ys, h1, h2, h3, h4⟩ := r2
    refine ⟨d, ys, x.kvs.map (·.1), by rw [h1], a2.i.rd h2, dkeys_pairs h3, fun l zs hl ez => ?_⟩
    have nl : H1 l = none := a2.non hl
    obtain ⟨S3, a3, e3, r3⟩ := pairs_settle (K := X.K) (mg := X.mg) ez a2
    exact q l S3 _ zs (a3.trans (At.apart a3.i hl)) nl (a3.i.out hl) upd_same r3 (by rw [List.length_mergeSort, List.length_map]; exact h4))
theorem en_sortedL {x : List (Int × Int)} (hu : X.A.units + 64 < cLine) (hm : X.mg "sorted" = none) (ha : Ev X a σ S x) (hg : Gl X "sorted" := by rfl) (he : starEach (a :: []) X.env = (false, eval a X.env) :: starEach [] X.env := by rfl) (hpl : (backTo pos (starEach [] X.env)).any (·.1) = false := by rfl) :
    EvN X (.Call (.Name "sorted" p) [a] [] pos) σ S (x.mergeSort le2) := fun S1 H1 e1 s Q q =>
  WE.of (pe_callB (cr_sortedLP hu) hg hm bt_sorted (pa_cons peS pa_nil he) (by decide) (by decide) he hpl) (ha S1 H1 e1 s _ fun v S2 H2 a2 r2 => by
    obtain ⟨d, ys, h1, h2, h3, h4⟩ := r2
    refine ⟨d, ys, x, by rw [h1], a2.i.lst h2, pairs_of_reps a2.i h3, fun l zs hl ez => ?_⟩
    have nl : H1 l = none := a2.non hl
    obtain ⟨S3, a3, e3, r3⟩ := pairs_settle (K := X.K) (mg := X.mg) ez a2
    exact q l S3 _ zs (a3.trans (At.apart a3.i hl)) nl (a3.i.out hl) upd_same r3 (by rw [List.length_mergeSort]; exact h4))
/-- a list display of one kind -/
theorem en_nil {α : Type} [Rep α] : EvN X (.List [] pos) σ S ([] : List α) := fun S1 H1 e1 s Q q =>
  WE.of (pe_lst pa_nil) ⟨by show 0 ≤ sizeLine; decide, fun l hl => q l S1 _ [] (At.apart s hl) hl (s.out hl) upd_same .nil (by show 0 ≤ sizeLine; decide)⟩
/-- (a, b) -/
theorem ev_tup2 {α β : Type} [Rep α] [Rep β] {x : α} {y : β} {k : Nat} (ha : Ev X a σ S x) (hb : Ev X b σ S y) (h1 : starEach (a :: [b]) X.env = (false, eval a X.env) :: starEach [b] X.env := by rfl) (h2 : starEach (b :: []) X.env = (false, eval b X.env) :: starEach [] X.env := by rfl) :
    Ev X (.Tuple [a, b] k pos) σ S (x, y) := fun S1 H1 e1 s Q q =>
  WE.of (pe_tup (pa_cons peS (pa_cons peS pa_nil h2) h1)) (ha S1 H1 e1 s _ fun v S2 H2 a2 r2 => hb S2 H2 (e1.trans a2.s) a2.i _ fun u S3 H3 a3 r3 =>
    ⟨by show 2 ≤ sizeLine; decide, fun t ht => q _ _ _ ((a2.trans a3).trans (At.new a3.i ht)) ⟨t, v, u, rfl, upd_same, rep_ext r2 (a3.s.trans (ext_new (a3.i.out ht))), rep_ext r3 (ext_new (a3.i.out ht))⟩⟩)
end
end Tl
namespace Tl
open PySem PySem.Spec PyProof.Rows L2
/-! ### exceptions, told -/
/-- an exception: its class's name, its fields -/
inductive Exn where
  | plain (x : Str)
/-- what of it stands in the heap -/
def repX (mg : Str → Option Value) (S : Hp) : Exn → Value → Option Addr → Prop
  | .plain x, cls, d => cls = .ref (clsAt mg x) ∧ d = none
theorem repX_ext {mg : Str → Option Value} {S S' : Hp} (e : Ext S S') {x : Exn} {cls : Value} {d : Option Addr} (h : repX mg S x cls d) : repX mg S' x cls d := by
  cases x with
  | plain x => exact h
/-- the wish W at whatever slots -/
def EW (X : Cx) (W : WX) : XK := fun cls d H => ∀ σ' : L2.St, σ'.length = X.N.length → W cls d σ' H
theorem passW {X : Cx} {W : WX} (tk : Takes X W) : Passes (L2.CX X.prog X.w) X (EW X W) := fun pins σ H s e s' I c => by
  refine passAt tk σ pins H s e s' I ?_
  obtain ⟨a, B, b1, b2, b3, b4, b5, b6, b7, b8, b9, b10, b11⟩ := c
  exact ⟨a, B, b1, b2, b3, b4, b5, b6, b7, b8, b9, b10, b11 σ I.len⟩
/-- e raises: whatever is asked behind it -/
def EvE (X : Cx) (e : Expr) (σ : L2.St) (S : Hp) (W : WX) (ex : Exn) : Prop := ∀ S1 H1, Ext S S1 → Sub S1 H1 → (∀ cls d S2 H2, At S1 H1 S2 H2 → repX X.mg S2 ex cls d → EW X W cls d H2) → ∀ Q : VK, WE X e σ H1 Q
/-- the promise of a def that may raise -/
def spX {α β : Type} [Args α] [Rep β] (G : Gx) (pre : α → Prop) (f : α → Except Exn β) : Sp := fun vs H Q E => ∃ S x, Sub S H ∧ Args.args G.K G.mg S vs x ∧ pre x ∧
  (∀ y, f x = .ok y → ∀ w S' H', At S H S' H' → rep G.K G.mg S' w y → Q w H') ∧ ∀ ex, f x = .error ex → ∀ cls d S' H', At S H S' H' → repX G.mg S' ex cls d → E cls d H'
theorem spX_len {α β : Type} [Args α] [Rep β] {G : Gx} {pre : α → Prop} {f : α → Except Exn β} {ps : List Str} (h : ps.length = Args.len α) : ∀ vs H Q E, spX G pre f vs H Q E → vs.length = ps.length := fun _ _ _ _ ⟨_, _, _, h1, _⟩ => (Args.ok h1).trans h.symm
/-- .. that hands back a new list -/
def spN {α β : Type} [Args α] [Rep β] (G : Gx) (pre : α → Prop) (f : α → List β) : Sp := fun vs H Q _ => ∃ S x, Sub S H ∧ Args.args G.K G.mg S vs x ∧ pre x ∧
  ∀ l S' H' ys, At S H S' H' → H l = none → S' l = none → H' l = some (.lst ys) → Reps G.K G.mg S' ys (f x) → (f x).length ≤ sizeLine → Q (.ref l) H'
theorem spN_len {α β : Type} [Args α] [Rep β] {G : Gx} {pre : α → Prop} {f : α → List β} {ps : List Str} (h : ps.length = Args.len α) : ∀ vs H Q E, spN G pre f vs H Q E → vs.length = ps.length := fun _ _ _ _ ⟨_, _, _, h1, _⟩ => (Args.ok h1).trans h.symm
/-- from S within H to S' within H' where the object at x alone is written -/
structure AtX (x : Addr) (S H S' H' : Hp) : Prop where
  s : Ext S S'
  i : Sub S' H'
  h : ∀ a o, a ≠ x → NoMk S a → H a = some o → H' a = some o
  f : ∀ a o, S a = none → S' a = some o → a = x ∨ H a = none ∨ ∃ xs, o = .tup xs
  z : ∀ a ob o, a ≠ x → H a = some (.frz ob o) → H' a = some (.frz ob o)
/-- an __init__'s promise: it makes of the empty object at x what stands for f's value -/
def spI {α β : Type} [Args α] [Rep β] (G : Gx) (c : Str) (pre : α → Prop) (f : α → Except Exn β) : Sp := fun vs H Q E => ∃ S x dx us y, vs = .ref x :: us ∧ Sub S H ∧ S x = none ∧ H x = some (.ins (clsAt G.mg c) dx []) ∧ Args.args G.K G.mg S us y ∧ pre y ∧
  (∀ z, f y = .ok z → ∀ S' H', AtX x S H S' H' → rep G.K G.mg S' (.ref x) z → Q .non H') ∧ ∀ ex, f y = .error ex → ∀ cls d S' H', AtX x S H S' H' → repX G.mg S' ex cls d → E cls d H'
theorem spI_len {α β : Type} [Args α] [Rep β] {G : Gx} {c : Str} {pre : α → Prop} {f : α → Except Exn β} {ps : List Str} (h : ps.length = Args.len α + 1) : ∀ vs H Q E, spI G c pre f vs H Q E → vs.length = ps.length := fun _ _ _ _ ⟨_, _, _, _, _, h0, _, _, _, h1, _⟩ => by
  rw [h0, h, List.length_cons, Args.ok h1]
section
variable {G : Gx} {X : Cx} {e o : Expr} {es : List Expr} {σ : L2.St} {S : Hp} {p pos apos : Pos} {x m c f : Str} {ps : List Str} {n : Nat} {W : WX}
theorem EvE.ext {S' : Hp} {ex : Exn} (h : EvE X e σ S W ex) (k : Ext S S') : EvE X e σ S' W ex := fun S1 H1 e1 => h S1 H1 (k.trans e1)
/-- f(e, ..) of a def that may raise: it doesn't, it does -/
theorem ev_callX {α β : Type} [Args α] [Rep β] {pre : α → Prop} {f : α → Except Exn β} {y : α} {z : β} (on : On G X) (F : Df G x ps n (spX G pre f)) (hr : Room n X.A) (ha : EvAs X (e :: es) σ S y) (hp : pre y) (hz : f y = .ok z) (hg : Gl X x := by rfl)
    (hdb : (x == ("__debug__" : Str)) = false := by decide) (he : starEach (e :: es) X.env = (false, eval e X.env) :: starEach es X.env := by rfl) (hpl : (backTo pos (starEach es X.env)).any (·.1) = false := by rfl) : Ev X (.Call (.Name x p) (e :: es) [] pos) σ S z := fun S1 H1 e1 s Q q => by
  obtain ⟨fa, hm, F⟩ := F.ex
  obtain ⟨fd, h1, h2⟩ := F.fnok on
  refine WE.of (pe_call (dvs := []) (ds := []) (E := E0) h1 hr hg (by rw [on.mg]; exact hm) (by rw [on.K]; exact F.kp) h2 .nil passL paS hdb he hpl) ?_
  refine ha S1 H1 e1 s _ fun vs S2 H2 a2 r2 => ?_
  rw [List.append_nil]
  rw [on.K, on.mg] at r2
  refine ⟨S2, y, a2.i, r2, hp, fun y' hy w S3 H3 a3 r3 => q w S3 H3 (a2.trans a3) ?_, fun ex hx => by rw [hz] at hx; cases hx⟩
  rw [hz] at hy
  cases hy
  rw [on.K, on.mg]; exact r3
theorem ee_callX {α β : Type} [Args α] [Rep β] {pre : α → Prop} {f : α → Except Exn β} {y : α} {ex : Exn} (on : On G X) (tk : Takes X W) (F : Df G x ps n (spX G pre f)) (hr : Room n X.A) (ha : EvAs X (e :: es) σ S y) (hp : pre y) (hz : f y = .error ex) (hg : Gl X x := by rfl)
    (hdb : (x == ("__debug__" : Str)) = false := by decide) (he : starEach (e :: es) X.env = (false, eval e X.env) :: starEach es X.env := by rfl) (hpl : (backTo pos (starEach es X.env)).any (·.1) = false := by rfl) : EvE X (.Call (.Name x p) (e :: es) [] pos) σ S W ex := fun S1 H1 e1 s k Q => by
  obtain ⟨fa, hm, F⟩ := F.ex
  obtain ⟨fd, h1, h2⟩ := F.fnok on
  refine WE.of (pe_call (dvs := []) (ds := []) (E := EW X W) h1 hr hg (by rw [on.mg]; exact hm) (by rw [on.K]; exact F.kp) h2 .nil (passW tk) paS hdb he hpl) ?_
  refine ha S1 H1 e1 s _ fun vs S2 H2 a2 r2 => ?_
  rw [List.append_nil]
  rw [on.K, on.mg] at r2
  refine ⟨S2, y, a2.i, r2, hp, (fun y' hy => by rw [hz] at hy; cases hy), fun ex' hx cls d S3 H3 a3 r3 => k cls d S3 H3 (a2.trans a3) ?_⟩
  rw [hz] at hx
  cases hx
  rw [on.mg]; exact r3
theorem en_call {α β : Type} [Args α] [Rep β] {pre : α → Prop} {f : α → List β} {y : α} (on : On G X) (F : Df G x ps n (spN G pre f)) (hr : Room n X.A) (ha : EvAs X (e :: es) σ S y) (hp : pre y) (hg : Gl X x := by rfl)
    (hdb : (x == ("__debug__" : Str)) = false := by decide) (he : starEach (e :: es) X.env = (false, eval e X.env) :: starEach es X.env := by rfl) (hpl : (backTo pos (starEach es X.env)).any (·.1) = false := by rfl) : EvN X (.Call (.Name x p) (e :: es) [] pos) σ S (f y) := fun S1 H1 e1 s Q q => by
  obtain ⟨fa, hm, F⟩ := F.ex
  obtain ⟨fd, h1, h2⟩ := F.fnok on
  refine WE.of (pe_call (dvs := []) (ds := []) (E := E0) h1 hr hg (by rw [on.mg]; exact hm) (by rw [on.K]; exact F.kp) h2 .nil passL paS hdb he hpl) ?_
  refine ha S1 H1 e1 s _ fun vs S2 H2 a2 r2 => ?_
  rw [List.append_nil]
  rw [on.K, on.mg] at r2
  refine ⟨S2, y, a2.i, r2, hp, fun l S3 H3 ys a3 n1 n2 h3 r3 z => q l S3 H3 ys (a2.trans a3) ?_ n2 h3 (by rw [on.K, on.mg]; exact r3) z⟩
  exact a2.non n1
/-- objects: a field -/
theorem ev_fld {α β : Type} [Rep α] [Rep β] {y : α} {z : β} (cl : Cls X.K (clsAt X.mg c)) (na : NoAttr X.K (clsAt X.mg c) f) (ho : Ev X o σ S y)
    (hf : ∀ S' v, rep X.K X.mg S' v y → ∃ a dx fs w, v = .ref a ∧ S' a = some (.ins (clsAt X.mg c) dx fs) ∧ fs.lookup f = some w ∧ rep X.K X.mg S' w z) (hb : attributeBase o f X.env (eval o X.env) = eval o X.env := by rfl) : Ev X (.Attribute o f pos) σ S z := fun S1 H1 e1 s Q q =>
  WE.of (pe_fld peS hb) (ho S1 H1 e1 s _ fun v S2 H2 a2 r2 => by
    obtain ⟨a, dx, fs, w, h1, h2, h3, h4⟩ := hf S2 v r2
    exact ⟨a, _, dx, fs, w, h1, a2.i.ins h2, cl, na, h3, q w S2 H2 a2 h4⟩)
/-- a property -/
theorem ev_prop {α β : Type} [Rep α] [Rep β] {pre : α × Unit → Prop} {g : α × Unit → β} {y : α} (on : On G X) (F : Dp G c f n (spF G pre g)) (hr : Room (n + 1) X.A) (ho : Ev X o σ S y) (hp : pre (y, ()))
    (hi : ∀ S' v, rep X.K X.mg S' v y → ∃ a dx fs, v = .ref a ∧ S' a = some (.ins (clsAt X.mg c) dx fs)) (hb : attributeBase o f X.env (eval o X.env) = eval o X.env := by rfl) : Ev X (.Attribute o f pos) σ S (g (y, ())) := fun S1 H1 e1 s Q q => by
  obtain ⟨p, ga, hpo, F2⟩ := F.ex
  obtain ⟨fd, h1, h2⟩ := F2.fnok on
  have cl := F.cl
  rw [← on.K, ← on.mg] at hpo cl
  refine WE.of (pe_prop (dvs := []) (ds := []) (E := E0) peS cl hpo h1 hr h2 .nil passL hb) ?_
  refine ho S1 H1 e1 s _ fun v S2 H2 a2 r2 => ?_
  obtain ⟨a, dx, fs, rfl, h4⟩ := hi S2 v r2
  refine ⟨a, dx, fs, rfl, a2.i.ins h4, S2, (y, ()), a2.i, ⟨.ref a, [], rfl, ?_, rfl⟩, hp, fun w S3 H3 a3 r3 => q w S3 H3 (a2.trans a3) ?_⟩
  · rw [← on.K, ← on.mg]; exact r2
  · rw [on.K, on.mg]; exact r3
theorem en_prop {α β : Type} [Rep α] [Rep β] {pre : α × Unit → Prop} {g : α × Unit → List β} {y : α} (on : On G X) (F : Dp G c f n (spN G pre g)) (hr : Room (n + 1) X.A) (ho : Ev X o σ S y) (hp : pre (y, ()))
    (hi : ∀ S' v, rep X.K X.mg S' v y → ∃ a dx fs, v = .ref a ∧ S' a = some (.ins (clsAt X.mg c) dx fs)) (hb : attributeBase o f X.env (eval o X.env) = eval o X.env := by rfl) : EvN X (.Attribute o f pos) σ S (g (y, ())) := fun S1 H1 e1 s Q q => by
  obtain ⟨p, ga, hpo, F2⟩ := F.ex
  obtain ⟨fd, h1, h2⟩ := F2.fnok on
  have cl := F.cl
  rw [← on.K, ← on.mg] at hpo cl
  refine WE.of (pe_prop (dvs := []) (ds := []) (E := E0) peS cl hpo h1 hr h2 .nil passL hb) ?_
  refine ho S1 H1 e1 s _ fun v S2 H2 a2 r2 => ?_
  obtain ⟨a, dx, fs, rfl, h4⟩ := hi S2 v r2
  refine ⟨a, dx, fs, rfl, a2.i.ins h4, S2, (y, ()), a2.i, ⟨.ref a, [], rfl, ?_, rfl⟩, hp, fun l S3 H3 ys a3 n1 n2 h3 r3 z => q l S3 H3 ys (a2.trans a3) ?_ n2 h3 ?_ z⟩
  · rw [← on.K, ← on.mg]; exact r2
  · exact a2.non n1
  · rw [on.K, on.mg]; exact r3
/-- o.m(e, ..) -/
theorem ev_meth {α β γ : Type} [Rep α] [Args β] [Rep γ] {pre : α × β → Prop} {g : α × β → γ} {y : α} {z : β} {pl : Sem Bool} (on : On G X) (F : Dm G c m ps n (spF G pre g)) (hr : Room n X.A) (ho : Ev X o σ S y) (ha : EvAs X (e :: es) σ S z) (hp : pre (y, z))
    (hi : ∀ S' v, rep X.K X.mg S' v y → ∃ a dx fs, v = .ref a ∧ S' a = some (.ins (clsAt X.mg c) dx fs) ∧ fs.lookup m = none)
    (hst : starEach (e :: es) X.env = (false, eval e X.env) :: starEach es X.env := by rfl) (hpl : (backTo pos (starEach es X.env)).any (·.1) = false := by rfl)
    (ht : eval (.Call (.Attribute o m apos) (e :: es) [] pos) X.env = (do
      let ov ← eval o X.env
      standAt apos.atName
      let (f, first) ← holding [ov] (getMethod ov m pl)
      callWith pos f first (backTo pos (starEach (e :: es) X.env)) (backToKw pos (keywordEach [] X.env))) := by rfl) : Ev X (.Call (.Attribute o m apos) (e :: es) [] pos) σ S (g (y, z)) := fun S1 H1 e1 s Q q => by
  obtain ⟨fa, hm, F2⟩ := F.ex
  obtain ⟨fd, h1, h2⟩ := F2.fnok on
  have cl := F.cl
  rw [← on.K, ← on.mg] at hm cl
  refine WE.of (pe_meth (dvs := []) (ds := []) (E := E0) peS cl hm h1 hr h2 .nil passL paS hst hpl ht) ?_
  refine ho S1 H1 e1 s _ fun v S2 H2 a2 r2 => ?_
  obtain ⟨a, dx, fs, rfl, h4, h5⟩ := hi S2 v r2
  refine ⟨a, dx, fs, rfl, a2.i.ins h4, h5, ha S2 H2 (e1.trans a2.s) a2.i _ fun vs S3 H3 a3 r3 => ?_⟩
  rw [List.append_nil]
  have r2' := rep_ext r2 a3.s
  rw [on.K, on.mg] at r2' r3
  refine ⟨S3, (y, z), a3.i, ⟨.ref a, vs, rfl, r2', r3⟩, hp, fun w S4 H4 a4 r4 => q w S4 H4 ((a2.trans a3).trans a4) ?_⟩
  rw [on.K, on.mg]; exact r4
/-- o.m(e, ..) of a method that may raise -/
theorem ev_methX {α β γ : Type} [Rep α] [Args β] [Rep γ] {pre : α × β → Prop} {g : α × β → Except Exn γ} {y : α} {z : β} {w : γ} {pl : Sem Bool} (on : On G X) (F : Dm G c m ps n (spX G pre g)) (hr : Room n X.A) (ho : Ev X o σ S y) (ha : EvAs X (e :: es) σ S z) (hp : pre (y, z)) (hz : g (y, z) = .ok w)
    (hi : ∀ S' v, rep X.K X.mg S' v y → ∃ a dx fs, v = .ref a ∧ S' a = some (.ins (clsAt X.mg c) dx fs) ∧ fs.lookup m = none)
    (hst : starEach (e :: es) X.env = (false, eval e X.env) :: starEach es X.env := by rfl) (hpl : (backTo pos (starEach es X.env)).any (·.1) = false := by rfl)
    (ht : eval (.Call (.Attribute o m apos) (e :: es) [] pos) X.env = (do
      let ov ← eval o X.env
      standAt apos.atName
      let (f, first) ← holding [ov] (getMethod ov m pl)
      callWith pos f first (backTo pos (starEach (e :: es) X.env)) (backToKw pos (keywordEach [] X.env))) := by rfl) : Ev X (.Call (.Attribute o m apos) (e :: es) [] pos) σ S w := fun S1 H1 e1 s Q q => by
  obtain ⟨fa, hm, F2⟩ := F.ex
  obtain ⟨fd, h1, h2⟩ := F2.fnok on
  have cl := F.cl
  rw [← on.K, ← on.mg] at hm cl
  refine WE.of (pe_meth (dvs := []) (ds := []) (E := E0) peS cl hm h1 hr h2 .nil passL paS hst hpl ht) ?_
  refine ho S1 H1 e1 s _ fun v S2 H2 a2 r2 => ?_
  obtain ⟨a, dx, fs, rfl, h4, h5⟩ := hi S2 v r2
  refine ⟨a, dx, fs, rfl, a2.i.ins h4, h5, ha S2 H2 (e1.trans a2.s) a2.i _ fun vs S3 H3 a3 r3 => ?_⟩
  rw [List.append_nil]
  have r2' := rep_ext r2 a3.s
  rw [on.K, on.mg] at r2' r3
  refine ⟨S3, (y, z), a3.i, ⟨.ref a, vs, rfl, r2', r3⟩, hp, (fun y' hy w S4 H4 a4 r4 => q w S4 H4 ((a2.trans a3).trans a4) ?_), fun ex hx => by rw [hz] at hx; cases hx⟩
  rw [hz] at hy
  cases hy
  rw [on.K, on.mg]; exact r4
theorem ee_methX {α β γ : Type} [Rep α] [Args β] [Rep γ] {pre : α × β → Prop} {g : α × β → Except Exn γ} {y : α} {z : β} {ex : Exn} {pl : Sem Bool} (on : On G X) (tk : Takes X W) (F : Dm G c m ps n (spX G pre g)) (hr : Room n X.A) (ho : Ev X o σ S y) (ha : EvAs X (e :: es) σ S z) (hp : pre (y, z)) (hz : g (y, z) = .error ex)
    (hi : ∀ S' v, rep X.K X.mg S' v y → ∃ a dx fs, v = .ref a ∧ S' a = some (.ins (clsAt X.mg c) dx fs) ∧ fs.lookup m = none)
    (hst : starEach (e :: es) X.env = (false, eval e X.env) :: starEach es X.env := by rfl) (hpl : (backTo pos (starEach es X.env)).any (·.1) = false := by rfl)
    (ht : eval (.Call (.Attribute o m apos) (e :: es) [] pos) X.env = (do
      let ov ← eval o X.env
      standAt apos.atName
      let (f, first) ← holding [ov] (getMethod ov m pl)
      callWith pos f first (backTo pos (starEach (e :: es) X.env)) (backToKw pos (keywordEach [] X.env))) := by rfl) : EvE X (.Call (.Attribute o m apos) (e :: es) [] pos) σ S W ex := fun S1 H1 e1 s k Q => by
  obtain ⟨fa, hm, F2⟩ := F.ex
  obtain ⟨fd, h1, h2⟩ := F2.fnok on
  have cl := F.cl
  rw [← on.K, ← on.mg] at hm cl
  refine WE.of (pe_meth (dvs := []) (ds := []) (E := EW X W) peS cl hm h1 hr h2 .nil (passW tk) paS hst hpl ht) ?_
  refine ho S1 H1 e1 s _ fun v S2 H2 a2 r2 => ?_
  obtain ⟨a, dx, fs, rfl, h4, h5⟩ := hi S2 v r2
  refine ⟨a, dx, fs, rfl, a2.i.ins h4, h5, ha S2 H2 (e1.trans a2.s) a2.i _ fun vs S3 H3 a3 r3 => ?_⟩
  rw [List.append_nil]
  have r2' := rep_ext r2 a3.s
  rw [on.K, on.mg] at r2' r3
  refine ⟨S3, (y, z), a3.i, ⟨.ref a, vs, rfl, r2', r3⟩, hp, (fun y' hy => by rw [hz] at hy; cases hy), fun ex' hx cls d S4 H4 a4 r4 => k cls d S4 H4 ((a2.trans a3).trans a4) ?_⟩
  rw [hz] at hx
  cases hx
  rw [on.mg]; exact r4
theorem en_meth {α β γ : Type} [Rep α] [Args β] [Rep γ] {pre : α × β → Prop} {g : α × β → List γ} {y : α} {z : β} {pl : Sem Bool} (on : On G X) (F : Dm G c m ps n (spN G pre g)) (hr : Room n X.A) (ho : Ev X o σ S y) (ha : EvAs X (e :: es) σ S z) (hp : pre (y, z))
    (hi : ∀ S' v, rep X.K X.mg S' v y → ∃ a dx fs, v = .ref a ∧ S' a = some (.ins (clsAt X.mg c) dx fs) ∧ fs.lookup m = none)
    (hst : starEach (e :: es) X.env = (false, eval e X.env) :: starEach es X.env := by rfl) (hpl : (backTo pos (starEach es X.env)).any (·.1) = false := by rfl)
    (ht : eval (.Call (.Attribute o m apos) (e :: es) [] pos) X.env = (do
      let ov ← eval o X.env
      standAt apos.atName
      let (f, first) ← holding [ov] (getMethod ov m pl)
      callWith pos f first (backTo pos (starEach (e :: es) X.env)) (backToKw pos (keywordEach [] X.env))) := by rfl) : EvN X (.Call (.Attribute o m apos) (e :: es) [] pos) σ S (g (y, z)) := fun S1 H1 e1 s Q q => by
  obtain ⟨fa, hm, F2⟩ := F.ex
  obtain ⟨fd, h1, h2⟩ := F2.fnok on
  have cl := F.cl
  rw [← on.K, ← on.mg] at hm cl
  refine WE.of (pe_meth (dvs := []) (ds := []) (E := E0) peS cl hm h1 hr h2 .nil passL paS hst hpl ht) ?_
  refine ho S1 H1 e1 s _ fun v S2 H2 a2 r2 => ?_
  obtain ⟨a, dx, fs, rfl, h4, h5⟩ := hi S2 v r2
  refine ⟨a, dx, fs, rfl, a2.i.ins h4, h5, ha S2 H2 (e1.trans a2.s) a2.i _ fun vs S3 H3 a3 r3 => ?_⟩
  rw [List.append_nil]
  have r2' := rep_ext r2 a3.s
  rw [on.K, on.mg] at r2' r3
  refine ⟨S3, (y, z), a3.i, ⟨.ref a, vs, rfl, r2', r3⟩, hp, fun l S4 H4 ys a4 n1 n2 h4 r4 zz => q l S4 H4 ys ((a2.trans a3).trans a4) ?_ n2 h4 ?_ zz⟩
  · exact (a2.trans a3).non n1
  · rw [on.K, on.mg]; exact r4
/-- C(e, ..): made, refused -/
theorem make_at {S2 H2 S3 H3 : Hp} {C x dx : Addr} (s2 : Sub S2 H2) (hx : H2 x = none) (hd : H2 dx = none) (ne : dx ≠ x) (a : AtX x S2 (upd (upd H2 dx (.own x)) x (.ins C dx [])) S3 H3) : At S2 H2 S3 H3 := by
  refine ⟨a.s, a.i, fun b o n e => a.h b o (ne_of_none e hx) n ?_, fun b o hb hb2 => ?_, fun b ob o e => a.z b ob o (ne_of_none e hx) ?_⟩
  · rw [upd_ne (ne_of_none e hx), upd_ne (ne_of_none e hd)]; exact e
  · rcases a.f b o hb hb2 with z | z | z
    · subst z; exact .inl hx
    · by_cases q : b = x
      · subst q; exact .inl hx
      · rw [upd_ne q] at z
        by_cases q2 : b = dx
        · subst q2; exact .inl hd
        · rw [upd_ne q2] at z; exact .inl z
    · exact .inr z
  · rw [upd_ne (ne_of_none e hx), upd_ne (ne_of_none e hd)]; exact e
theorem make_sub {S2 H2 : Hp} {C x dx : Addr} (s2 : Sub S2 H2) (hx : H2 x = none) (hd : H2 dx = none) : Sub S2 (upd (upd H2 dx (.own x)) x (.ins C dx [])) := (s2.put (s2.out hd)).put (s2.out hx)
theorem ev_make {α β : Type} [Args α] [Rep β] {pre : α → Prop} {f : α → Except Exn β} {y : α} {z : β} (on : On G X) (F : Dc G c ps n (spI G c pre f)) (hr : Room (n + 1) X.A) (ha : EvAs X (e :: es) σ S y) (hp : pre y) (hz : f y = .ok z) (hg : Gl X c := by rfl)
    (hdb : (c == ("__debug__" : Str)) = false := by decide) (he : starEach (e :: es) X.env = (false, eval e X.env) :: starEach es X.env := by rfl) (hpl : (backTo pos (starEach es X.env)).any (·.1) = false := by rfl) : Ev X (.Call (.Name c p) (e :: es) [] pos) σ S z := fun S1 H1 e1 s Q q => by
  obtain ⟨fa, hm, F2⟩ := F.ex
  obtain ⟨fd, h1, h2⟩ := F2.fnok on
  rw [← on.K, ← on.mg] at hm
  refine WE.of (pe_make (dvs := []) (ds := []) (E := E0) hm h1 hr hg (by rw [on.mg]; exact F.mg) h2 .nil passL paS hdb he hpl) ?_
  refine ha S1 H1 e1 s _ fun vs S2 H2 a2 r2 x dx hx hd ne => ?_
  rw [List.append_nil]
  rw [on.K, on.mg] at r2
  refine ⟨S2, x, dx, vs, y, rfl, make_sub a2.i hx hd, a2.i.out hx, by rw [on.mg]; exact upd_same, r2, hp, (fun z' hz' S3 H3 a3 r3 => ⟨rfl, q _ S3 H3 (a2.trans (make_at a2.i hx hd ne a3)) ?_⟩), fun ex hx => by rw [hz] at hx; cases hx⟩
  rw [hz] at hz'
  cases hz'
  rw [on.K, on.mg]; exact r3
theorem ee_make {α β : Type} [Args α] [Rep β] {pre : α → Prop} {f : α → Except Exn β} {y : α} {ex : Exn} (on : On G X) (tk : Takes X W) (F : Dc G c ps n (spI G c pre f)) (hr : Room (n + 1) X.A) (ha : EvAs X (e :: es) σ S y) (hp : pre y) (hz : f y = .error ex) (hg : Gl X c := by rfl)
    (hdb : (c == ("__debug__" : Str)) = false := by decide) (he : starEach (e :: es) X.env = (false, eval e X.env) :: starEach es X.env := by rfl) (hpl : (backTo pos (starEach es X.env)).any (·.1) = false := by rfl) : EvE X (.Call (.Name c p) (e :: es) [] pos) σ S W ex := fun S1 H1 e1 s k Q => by
  obtain ⟨fa, hm, F2⟩ := F.ex
  obtain ⟨fd, h1, h2⟩ := F2.fnok on
  rw [← on.K, ← on.mg] at hm
  refine WE.of (pe_make (dvs := []) (ds := []) (E := EW X W) hm h1 hr hg (by rw [on.mg]; exact F.mg) h2 .nil (passW tk) paS hdb he hpl) ?_
  refine ha S1 H1 e1 s _ fun vs S2 H2 a2 r2 x dx hx hd ne => ?_
  rw [List.append_nil]
  rw [on.K, on.mg] at r2
  refine ⟨S2, x, dx, vs, y, rfl, make_sub a2.i hx hd, a2.i.out hx, by rw [on.mg]; exact upd_same, r2, hp, (fun z' hz' => by rw [hz] at hz'; cases hz'), fun ex' hx' cls d S3 H3 a3 r3 => k cls d S3 H3 (a2.trans (make_at a2.i hx hd ne a3)) ?_⟩
  rw [hz] at hx'
  cases hx'
  rw [on.mg]; exact r3
/-! ### statements that raise -/
variable {H : Hp} {D : Ends} {rest : List Stmt}
/-- what an exception class of one's own, without an __init__, must tell -/
structure Xc (G : Gx) (x : Str) : Prop where
  ex : ∃ (B newId initId : String) (bmB : List Value), PySem.ExcBaseFacts B newId initId bmB ∧ PySem.W.excIn G.K (clsAt G.mg x) bmB newId = true
  mg : G.mg x = some (.ref (clsAt G.mg x))
  kp : PySem.W.keepIn G.K (.ref (clsAt G.mg x)) = true
  sb : PySem.W.subIn G.K (.ref (clsAt G.mg x)) (.type "BaseException") = some true
  ty : PySem.W.typeIn G.K (.ref (clsAt G.mg x)) = some (.type "type")
theorem ws_raise {msg : Str} {j : Nat} {p2 pos2 : Pos} (on : On G X) (hc : X.calm = true) (tk : Takes X W) (E : Xc G x) (k : W (.ref (clsAt X.mg x)) none σ H) (hg : Gl X x := by rfl) (hdb : (x == ("__debug__" : Str)) = false := by decide) : WSs X (.Raise (some (.Call (.Name x p) [.Constant (.str msg) j p2] [] pos)) none pos2 :: rest) D σ H := by
  obtain ⟨B, newId, initId, bmB, F, q⟩ := E.ex
  have m := E.mg
  have kp := E.kp
  have sb := E.sb
  have ty := E.ty
  rw [← on.K, ← on.mg] at q kp sb ty
  rw [← on.mg] at m
  exact WSs.seq (WS.of (ps_raise hc tk (pmk_own F q m kp (raises_own sb ty) hg hdb)) k)
theorem ws_exprE {ex : Exn} (he : EvE X e σ S W ex) (s : Sub S H) (k : ∀ cls d S2 H2, At S H S2 H2 → repX X.mg S2 ex cls d → EW X W cls d H2) (hs : swapsWith e none pos.line X.env = pure false := by rfl) : WSs X (.Expr e pos :: rest) D σ H :=
  WSs.seq (WS.of (ps_expr peS hs) (he S H (Ext.refl S) s k _))
theorem ws_retE {ex : Exn} (he : EvE X e σ S W ex) (s : Sub S H) (k : ∀ cls d S2 H2, At S H S2 H2 → repX X.mg S2 ex cls d → EW X W cls d H2) : WSs X (.Return (some e) pos :: rest) D σ H :=
  WSs.seq (WS.of (ps_ret peS) (he S H (Ext.refl S) s k _))
end
end Tl
namespace Tl
open PySem PySem.Spec PyProof.Rows L2
/-! ### dict comprehensions, typed -/
/-- the dict of these entries, later ones winning -/
def dictOf {κ α : Type} [DecidableEq κ] (l : List (κ × α)) : List (κ × α) := l.foldl (fun d p => dput d p.1 p.2) []
theorem dictOf_snoc {κ α : Type} [DecidableEq κ] (l : List (κ × α)) (k : κ) (x : α) : dictOf (l ++ [(k, x)]) = dput (dictOf l) k x := by
  unfold dictOf
  rw [List.foldl_append]
  rfl
theorem dictOf_len {κ α : Type} [DecidableEq κ] (l : List (κ × α)) : (dictOf l).length ≤ l.length := by
  have go : ∀ (l : List (κ × α)) (d : List (κ × α)), (l.foldl (fun d p => dput d p.1 p.2) d).length ≤ d.length + l.length := by
    intro l
    induction l with
    | nil => intro d; exact Nat.le_refl _
    | cons p l ih =>
      intro d
      refine Nat.le_trans (ih _) ?_
      have : (dput d p.1 p.2).length ≤ d.length + 1 := by
        unfold dput
        split
        · rw [List.length_map]; omega
        · rw [List.length_append]; simp
      simp only [List.length_cons]; omega
  have := go l []
  simpa [dictOf] using this
section
variable {X : Cx} {σ : L2.St} {S : Hp} {kx vx tg iter : Expr} {ifs : List Expr} {scope : Scope} {own : List (Str × Nat)} {pos : Pos}
theorem dc_at {α κ β : Type} [Rep α] [TKey κ] [DecidableEq κ] [Rep β] {L : Hp → Prop} {xs : List α} {p : α → Bool} {fk : α → κ} {fv : α → β} {g : TG} {Gd : Hp → α → L2.St → Prop} (hu : X.A.units + 1 < cLine) (hc : X.calm = true) (nd : X.N.Nodup) (ok : BlkOk X.N X.env.scope scope own) (hi : EvI L X tg iter σ S xs) (hl : xs.length ≤ sizeLine)
    (hg : Blk X scope fun Y => PG Y tg g) (ht : ∀ S' v x H Q, Ext S S' → x ∈ xs → rep X.K X.mg S' v x → Sub S' H → (∀ σ', wipe σ' (own.map (·.2)) = wipe σ (own.map (·.2)) → Gd S' x σ' → Q σ' H) → g v (wipe σ (own.map (·.2))) H Q)
    (htt : ∃ tt, (Blk X scope fun Y => PTs Y ifs tt) ∧ ∀ x S1 σ', x ∈ xs → Ext S S1 → Gd S1 x σ' → ∀ H1, Sub S1 H1 → ∀ Q : Bool → Hp → Prop, (∀ S2 H2, At S1 H1 S2 H2 → Q (p x) H2) → tt σ' H1 Q)
    (hkk : ∃ tk, (Blk X scope fun Y => PE Y kx tk) ∧ ∀ x S1 σ', x ∈ xs → p x = true → Ext S S1 → Gd S1 x σ' → ∀ H1, Sub S1 H1 → ∀ Q : VK, (∀ v S2 H2, At S1 H1 S2 H2 → rep X.K X.mg S2 v (fk x) → Q v H2) → tk σ' H1 Q)
    (hvv : ∃ tv, (Blk X scope fun Y => PE Y vx tv) ∧ ∀ x S1 σ', x ∈ xs → p x = true → Ext S S1 → Gd S1 x σ' → ∀ H1, Sub S1 H1 → ∀ Q : VK, (∀ v S2 H2, At S1 H1 S2 H2 → rep X.K X.mg S2 v (fv x) → Q v H2) → tv σ' H1 Q)
    (gx : ∀ {S1 S2 x σ'}, Ext S1 S2 → Gd S1 x σ' → Gd S2 x σ')
    (hs : ∀ x, foldedSetIterable iter X.env x = pure x) :
    ∀ S1 H1, Ext S S1 → Sub S1 H1 → L H1 → ∀ Q : VK, (∀ d S2 H2 ys, At S1 H1 S2 H2 → H1 d = none → S2 d = none → H2 d = some (.dT ys) → DReps X.K X.mg S2 ys (dictOf ((xs.filter p).map fun x => (fk x, fv x))) → Q (.ref d) H2) → WE X (.DictComp kx vx [⟨tg, iter, ifs, 0⟩] scope pos) σ H1 Q := by
  intro S1 H1 e1 s hL Q q
  obtain ⟨tt, pt, kt⟩ := htt
  obtain ⟨tk, pk, kk⟩ := hkk
  obtain ⟨tv, pv', kv⟩ := hvv
  refine WE.of (pe_dcT hu hc nd piS ok hg pt pk pv' hs) (hi S1 H1 e1 s hL _ fun J S2 H2 a2 Y D hD => ?_)
  let Pv : Nat → Hp → Prop := fun k H => k ≤ xs.length ∧ ∃ S' acc, At S2 H2 S' H ∧ S' D = none ∧ H D = some (.dT acc) ∧ DReps X.K X.mg S' acc (dictOf (((xs.take k).filter p).map fun x => (fk x, fv x)))
  refine ⟨fun i m H => m = xs.length - i ∧ Pv i H, ⟨xs.length, by simp, Nat.zero_le _, S2, [], At.apart a2.i hD, a2.i.out hD, upd_same, by simpa [dictOf] using DReps.nil⟩, ?_⟩
  rintro i m H ⟨rfl, hik, S', acc, b, hSD, hHD, racc⟩
  by_cases hlt : i < xs.length
  · refine .inr ?_
    have hx : xs[i]? = some xs[i] := List.getElem?_eq_getElem hlt
    have mem : xs[i] ∈ xs := List.getElem_mem hlt
    obtain ⟨go, yl⟩ := (Y i S' H b.s b.i (b.z)).1 _ hx
    refine ⟨go, Pv (i + 1), fun H' p' => ⟨xs.length - (i + 1), by omega, rfl, p'⟩, fun v H' hy => ?_⟩
    obtain ⟨S3, a3, r3⟩ := yl v H' hy
    have e3 : Ext S S3 := ((e1.trans a2.s).trans b.s).trans a3.s
    refine ht S3 v xs[i] H' _ e3 mem r3 a3.i fun σ' hw hG => ⟨hw, ?_⟩
    refine kt xs[i] S3 σ' mem e3 hG H' a3.i _ fun S4 H4 a4 => ?_
    have b4 := (b.trans a3).trans a4
    have o4 : S4 D = none := (a3.trans a4).out hSD hHD
    have h4 : H4 D = some (.dT acc) := (a3.trans a4).hown hHD hSD
    have tkk := take_succ' hx
    cases hp : p xs[i] with
    | false =>
      show Pv (i + 1) H4
      refine ⟨hlt, S4, acc, b4, o4, h4, ?_⟩
      rw [tkk, List.filter_append, List.filter_cons_of_neg (by rw [hp]; simp), List.filter_nil, List.append_nil]
      exact racc.ext (a3.trans a4).s
    | true =>
      show tk σ' H4 _
      refine kk xs[i] S4 σ' mem hp (e3.trans a4.s) (gx a4.s hG) H4 a4.i _ fun w S5 H5 a5 r5 => ?_
      refine kv xs[i] S5 σ' mem hp ((e3.trans a4.s).trans a5.s) (gx a5.s (gx a4.s hG)) H5 a5.i _ fun w2 S6 H6 a6 r6 => ?_
      have o6 : S6 D = none := (a5.trans a6).out o4 h4
      have h6 : H6 D = some (.dT acc) := (a5.trans a6).hown h4 o4
      obtain ⟨bk, ek, hk⟩ := TKey.at_ (rep_ext r5 a6.s : rep X.K X.mg S6 w (fk xs[i]))
      have rnow := racc.ext ((a3.trans a4).trans (a5.trans a6)).s
      refine ⟨acc, TKey.key (fk xs[i]), bk, ek, a6.i.tupE hk, h6, ?_, hlt, S6, putK acc (TKey.key (fk xs[i])) w2, (b4.trans (a5.trans a6)).put hD o6, o6, upd_same, ?_⟩
      · rw [racc.len]
        refine Nat.lt_of_le_of_lt (dictOf_len _) ?_
        rw [List.length_map]
        refine Nat.lt_of_le_of_lt (List.length_filter_le _ _) ?_
        rw [List.length_take]; omega
      · rw [tkk, List.filter_append, List.filter_cons_of_pos hp, List.filter_nil, List.map_append, List.map_cons, List.map_nil, dictOf_snoc]
        exact rnow.put _ r6
  · have ei : i = xs.length := by omega
    subst ei
    refine .inl ⟨(Y _ S' H b.s b.i (b.z)).2 (Nat.le_refl _), ?_⟩
    rw [List.take_length] at racc
    exact q D S' H acc (a2.trans b) (a2.non hD) hSD hHD racc
/-- a dict that is new: it stays apart -/
def EvM {κ α : Type} [TKey κ] [Rep α] (X : Cx) (e : Expr) (σ : L2.St) (S : Hp) (x : List (κ × α)) : Prop := ∀ S1 H1, Ext S S1 → Sub S1 H1 → ∀ Q : VK, (∀ d S2 H2 ys, At S1 H1 S2 H2 → H1 d = none → S2 d = none → H2 d = some (.dT ys) → DReps X.K X.mg S2 ys x → x.length ≤ sizeLine → Q (.ref d) H2) → WE X e σ H1 Q
theorem EvM.ev {κ α : Type} [TKey κ] [Rep α] {e : Expr} {x : List (κ × α)} (h : EvM X e σ S x) : Ev X e σ S (Dict.mk x) := fun S1 H1 e1 s Q q => h S1 H1 e1 s Q fun l S2 H2 ys a2 n1 n2 h2 r2 z => q _ _ H2 (a2.settle n1 h2 n2) ⟨l, ys, rfl, upd_same, r2.ext (ext_new n2), z⟩
theorem EvM.to {κ α : Type} [TKey κ] [Rep α] {e : Expr} {x y : List (κ × α)} (h : EvM X e σ S x) (q : x = y) : EvM X e σ S y := q ▸ h
/-- {k: v for x in xs} -/
theorem em_dc {α κ β : Type} [Rep α] [TKey κ] [DecidableEq κ] [Rep β] {xs : List α} {fk : α → κ} {fv : α → β} (i : Nat) {x : Str} {tpos : Pos} (hu : X.A.units + 1 < cLine) (hc : X.calm = true) (nd : X.N.Nodup) (hi : EvI LT X (.Name x tpos) iter σ S xs) (hl : xs.length ≤ sizeLine)
    (hk : ∀ x v S', x ∈ xs → Ext S S' → rep X.K X.mg S' v x → Blk X scope fun Y => Ev Y kx ((wipe σ [i]).set i (some v)) S' (fk x))
    (hv : ∀ x v S', x ∈ xs → Ext S S' → rep X.K X.mg S' v x → Blk X scope fun Y => Ev Y vx ((wipe σ [i]).set i (some v)) S' (fv x))
    (hN : X.N[i]? = some x := by rfl) (ok : BlkOk X.N X.env.scope scope [(x, i)]) (hx : scope.names.lookup x = some .local := by rfl)
    (hs : ∀ x, foldedSetIterable iter X.env x = pure x := by intro _; rfl) : EvM X (.DictComp kx vx [⟨.Name x tpos, iter, [], 0⟩] scope pos) σ S (dictOf (xs.map fun x => (fk x, fv x))) := fun S1 H1 e1 s Q q => by
  refine dc_at (L := LT) (p := fun _ => true) (fk := fk) (fv := fv) (own := [(x, i)]) (g := gName i) (Gd := fun S' x σ' => ∃ v, rep X.K X.mg S' v x ∧ σ' = (wipe σ [i]).set i (some v)) hu hc nd ok hi hl (blk_name nd hN hx)
    (fun S' v x H Q _ _ r _ k => k _ (by show wipe ((wipe σ [i]).set i (some v)) [i] = wipe σ [i]; rw [wipe_set List.mem_cons_self]; exact wipe_wipe fun v hv => hv) ⟨v, r, rfl⟩)
    ⟨tYes, fun _ _ _ _ _ => pts_nil, fun x S1 σ' _ _ _ H1 s1 Q q => q S1 H1 (At.refl s1)⟩
    ⟨fun σ' H Q => ∃ S1 x v, x ∈ xs ∧ Ext S S1 ∧ rep X.K X.mg S1 v x ∧ σ' = (wipe σ [i]).set i (some v) ∧ Sub S1 H ∧ ∀ v S2 H2, At S1 H S2 H2 → rep X.K X.mg S2 v (fk x) → Q v H2, fun s H C cl fp => ⟨fun pins s' σ' H' Q I hh => ?_⟩, fun x S1 σ' hx _ ex ⟨v, rv, ev⟩ H1 s1 Q q => ⟨S1, x, v, hx, ex, rv, ev, s1, q⟩⟩
    ⟨fun σ' H Q => ∃ S1 x v, x ∈ xs ∧ Ext S S1 ∧ rep X.K X.mg S1 v x ∧ σ' = (wipe σ [i]).set i (some v) ∧ Sub S1 H ∧ ∀ v S2 H2, At S1 H S2 H2 → rep X.K X.mg S2 v (fv x) → Q v H2, fun s H C cl fp => ⟨fun pins s' σ' H' Q I hh => ?_⟩, fun x S1 σ' hx _ ex ⟨v, rv, ev⟩ H1 s1 Q q => ⟨S1, x, v, hx, ex, rv, ev, s1, q⟩⟩
    (fun e ⟨v, r, z⟩ => ⟨v, rep_ext r e, z⟩) hs S1 H1 e1 s trivial Q fun d S2 H2 ys a2 n1 n2 h2 r2 => q d S2 H2 ys a2 n1 n2 h2 (by rw [List.filter_eq_self.mpr (fun _ _ => rfl)] at r2; exact r2) (Nat.le_trans (dictOf_len _) (by rw [List.length_map]; exact hl))
  · obtain ⟨S1', x', v, hx, ex, rv, rfl, sb, k⟩ := hh
    exact hk x' v S1' hx ex rv s H C cl fp S1' H' (Ext.refl _) sb Q k pins s' I
  · obtain ⟨S1', x', v, hx, ex, rv, rfl, sb, k⟩ := hh
    exact hv x' v S1' hx ex rv s H C cl fp S1' H' (Ext.refl _) sb Q k pins s' I
end
/-! ### stores to fields while an object is made -/
theorem AtX.refl {x : Addr} {S H : Hp} (s : Sub S H) : AtX x S H S H := ⟨Ext.refl S, s, fun _ _ _ _ h => h, fun a o h k => (by rw [h] at k; cases k), fun _ _ _ _ h => h⟩
theorem AtX.step {x : Addr} {S0 H0 S H S' H' : Hp} (a : AtX x S0 H0 S H) (b : At S H S' H') : AtX x S0 H0 S' H' := by
  refine ⟨a.s.trans b.s, b.i, fun y o hy n e => ?_, fun y o hy hy2 => ?_, fun y ob o hy e => b.z y ob o (a.z y ob o hy e)⟩
  · refine b.h y o (fun u hu => ?_) (a.h y o hy n e)
    cases q : S0 y with
    | some w =>
      have w2 := a.s y w q
      rw [hu] at w2
      cases w2
      exact n u q
    | none =>
      rcases a.f y u q hu with z | z | ⟨xs, rfl⟩
      · exact absurd z hy
      · rw [e] at z; cases z
      · rfl
  · cases e : S y with
    | some o' =>
      have z := b.s y o' e
      rw [hy2] at z
      cases z
      exact a.f y o hy e
    | none =>
      rcases b.f y o e hy2 with z | z
      · by_cases q : y = x
        · exact .inl q
        · refine .inr (.inl ?_)
          cases q2 : H0 y with
          | none => rfl
          | some u => rw [a.h y u q (NoMk.out hy) q2] at z; cases z
      · exact .inr (.inr z)
theorem AtX.store {x : Addr} {S0 H0 S H : Hp} {o : HO} (a : AtX x S0 H0 S H) (h : S x = none) : AtX x S0 H0 S (upd H x o) := ⟨a.s, a.i.put h, fun y u hy n e => (by rw [upd_ne hy]; exact a.h y u hy n e), a.f, fun y ob u hy e => (by rw [upd_ne hy]; exact a.z y ob u hy e)⟩
theorem AtX.done {x : Addr} {S0 H0 S H : Hp} {o : HO} (a : AtX x S0 H0 S H) (h : H x = some o) (hs : S x = none) (m : isMk o = false := by rfl) : AtX x S0 H0 (upd S x o) H := by
  refine ⟨a.s.trans (ext_new hs), a.i.add h m, a.h, fun y u hy hy2 => ?_, a.z⟩
  by_cases e : y = x
  · exact .inl e
  · rw [upd_ne e] at hy2; exact a.f y u hy hy2
section
variable {X : Cx} {e o : Expr} {σ : L2.St} {S H : Hp} {D : Ends} {pos tpos : Pos} {rest : List Stmt} {f : Str}
theorem ws_fld {i : Nat} {p C dx : Addr} {fs : List (Str × V)} {r : V → Hp → Prop} {z : Str} {zp : Pos} (hs : σ[i]? = some (some (.ref p))) (he : EvR X e σ S r) (s : Sub S H) (hp : H p = some (.ins C dx fs)) (hS : S p = none) (cl : Cls X.K C) (na : NoAttr X.K C f) (few : fs.length < 1000)
    (k : ∀ v S' H', At S H S' H' → r v S' → S' p = none → H' p = some (.ins C dx fs) → WSs X rest D σ (upd H' p (.ins C dx (putF f v fs))))
    (hN : X.N[i]? = some z := by rfl) (hv : Vis X.env.scope z := by first | exact Or.inl rfl | exact Or.inr (Or.inl rfl)) (hd : (z == ("__debug__" : Str)) = false := by decide) (hcd : (z == ("__classdict__" : Str)) = false := by decide)
    (hsw : swapsWith e (some (.Attribute (.Name z zp) f tpos)) pos.line X.env = pure false := by rfl) : WSs X (.Assign [.Attribute (.Name z zp) f tpos] e pos :: rest) D σ H :=
  WSs.seq (WS.of (ps_fld (pe_var hN hv hd hcd) peS hsw) (he S H (Ext.refl S) s _ fun v S' H' a r' => ⟨.ref p, hs, p, C, dx, fs, rfl, a.hown hp hS, cl, na, few, k v S' H' a r' (a.out hS hp) (a.hown hp hS)⟩))
/-- .. where the value is reckoned while the object stands still -/
theorem ws_fldS {i : Nat} {p C dx : Addr} {fs : List (Str × V)} {r : V → Hp → Prop} {z : Str} {zp : Pos} (hs : σ[i]? = some (some (.ref p))) (s : Sub S H) (hp : H p = some (.ins C dx fs)) (hS : S p = none) (he : EvR X e σ (upd S p (.ins C dx fs)) r) (cl : Cls X.K C) (na : NoAttr X.K C f) (few : fs.length < 1000)
    (k : ∀ v S' H', At (upd S p (.ins C dx fs)) H S' H' → r v S' → H' p = some (.ins C dx fs) → WSs X rest D σ (upd H' p (.ins C dx (putF f v fs))))
    (hN : X.N[i]? = some z := by rfl) (hv : Vis X.env.scope z := by first | exact Or.inl rfl | exact Or.inr (Or.inl rfl)) (hd : (z == ("__debug__" : Str)) = false := by decide) (hcd : (z == ("__classdict__" : Str)) = false := by decide)
    (hsw : swapsWith e (some (.Attribute (.Name z zp) f tpos)) pos.line X.env = pure false := by rfl) : WSs X (.Assign [.Attribute (.Name z zp) f tpos] e pos :: rest) D σ H :=
  WSs.seq (WS.of (ps_fld (pe_var hN hv hd hcd) peS hsw) (he _ H (Ext.refl _) (s.add hp) _ fun v S' H' a r' => ⟨.ref p, hs, p, C, dx, fs, rfl, a.hstd hp upd_same, cl, na, few, k v S' H' a r' (a.hstd hp upd_same)⟩))
end
/-- S' without p -/
def but (S : Hp) (p : Addr) : Hp := fun a => if a = p then none else S a
theorem but_ne {S : Hp} {p a : Addr} (h : a ≠ p) : but S p a = S a := if_neg h
theorem but_self {S : Hp} {p : Addr} : but S p p = none := if_pos rfl
theorem At.thaw {S H S' H' : Hp} {p : Addr} {o : HO} (a : At (upd S p o) H S' H') (h : S p = none) (m : isMk o = false := by rfl) : At S H (but S' p) H' := by
  refine ⟨fun x u e => ?_, fun x u e => ?_, fun x u n e => a.h x u (fun w hw => ?_) e, fun x u hx e => ?_, a.z⟩
  · have ne : x ≠ p := fun z => by rw [z, h] at e; cases e
    rw [but_ne ne]
    exact a.s x u (by rw [upd_ne ne]; exact e)
  · by_cases q : x = p
    · subst q; rw [but_self] at e; cases e
    · rw [but_ne q] at e; exact a.i x u e
  · by_cases q : x = p
    · subst q; rw [upd_same] at hw; cases hw; exact m
    · rw [upd_ne q] at hw; exact n w hw
  · by_cases q : x = p
    · subst q; rw [but_self] at e; cases e
    · rw [but_ne q] at e; exact a.f x u (by rw [upd_ne q]; exact hx) e
theorem At.in_ {S H S' H' : Hp} {p : Addr} {o : HO} (a : At (upd S p o) H S' H') : S' p = some o := a.s p o upd_same
end Tl
namespace Tl
open PySem PySem.Spec PyProof.Rows L2
section
variable {X : Cx} {a b c e : Expr} {es : List Expr} {σ : L2.St} {S H : Hp} {p p2 pos : Pos} {De : Ends} {rest : List Stmt}
/-- len of a tuple of any values -/
theorem ev_lenT {x : List D} (hm : X.mg "len" = none) (ha : Ev X a σ S (D.tup x)) (hg : Gl X "len" := by rfl) (he : starEach (a :: []) X.env = (false, eval a X.env) :: starEach [] X.env := by rfl) (hpl : (backTo pos (starEach [] X.env)).any (·.1) = false := by rfl) :
    Ev X (.Call (.Name "len" p) [a] [] pos) σ S (x.length : Int) :=
  ev_b1 call_len_seq ha (fun v S2 H2 _ s h Q q => by
    obtain ⟨a, ys, h1, h2, h3⟩ : ∃ a ys, v = .ref a ∧ S2 a = some (.tup ys) ∧ D.reps S2 x ys := h
    exact ⟨a, ys, by rw [h1], .inr (s.tup h2), q _ S2 H2 (At.refl s) (by show V.int _ = V.int _; rw [D.reps_len x ys h3])⟩) hm bt_len hg (by decide) (by decide) he hpl
/-- x, y = a tuple of two values -/
theorem ws_unpack2 {i j k : Nat} {x y : Str} {px py tp : Pos} {u w : D} (hc : X.calm = true) (nd : X.N.Nodup) (he : Ev X e σ S (D.tup [u, w])) (s : Sub S H)
    (q : ∀ vx vy S' H', At S H S' H' → rep X.K X.mg S' vx u → rep X.K X.mg S' vy w → WSs X rest De ((σ.set i (some vx)).set j (some vy)) H')
    (hi : X.N[i]? = some x := by rfl) (hj : X.N[j]? = some y := by rfl) (lx : Loc X.env.scope x := by first | exact Or.inl rfl | exact Or.inr rfl) (ly : Loc X.env.scope y := by first | exact Or.inl rfl | exact Or.inr rfl)
    (fx : X.fn x = true ∨ X.env.scope.names.lookup x = some .local := by first | exact .inl rfl | exact .inr rfl) (fy : X.fn y = true ∨ X.env.scope.names.lookup y = some .local := by first | exact .inl rfl | exact .inr rfl)
    (hs : swapsWithSole [.Tuple [.Name x px, .Name y py] k tp] e pos.line X.env = pure false := by rfl) (hw : swappedStores [.Tuple [.Name x px, .Name y py] k tp] e X.env = pure none := by rfl)
    (h2 : (assignEach [.Name x px, .Name y py] X.env).length = 2 := by rfl) (h3 : (assignEach [.Name x px, .Name y py] X.env).findIdx? (·.1) = none := by rfl) :
    WSs X (.Assign [.Tuple [.Name x px, .Name y py] k tp] e pos :: rest) De σ H :=
  WSs.seq (WS.of (ps_asg peS (pg_tup hc (pgs_cons (pg_name nd hi lx fx) (pgs_cons (pg_name nd hj ly fy) pgs_nil)) h2 h3) hs hw) (he S H (Ext.refl S) s _ fun v S' H' a r => by
    obtain ⟨t, ys, h1, h2, h3⟩ : ∃ a ys, v = .ref a ∧ S' a = some (.tup ys) ∧ D.reps S' [u, w] ys := r
    obtain ⟨v1, r1, rfl, hv1, v2, r2, rfl, hv2, rfl⟩ : ∃ v r, ys = v :: r ∧ D.rep S' u v ∧ ∃ v2 r2, r = v2 :: r2 ∧ D.rep S' w v2 ∧ r2 = [] := h3
    exact ⟨t, _, h1, a.i.tup h2, rfl, v1, _, rfl, v2, _, rfl, rfl, q v1 v2 S' H' a hv1 hv2⟩))
end
end Tl
namespace Tl
open PySem PySem.Spec PyProof.Rows L2
section
variable {X : Cx} {σ : L2.St} {S : Hp} {elt iter iter1 : Expr} {scope : Scope} {pos : Pos}
/-- [e for x in xs for y in ys(x)] -/
theorem ev_lc2 {α β γ : Type} [Rep α] [Rep β] [Rep γ] {xs : List α} {ys : α → List β} {f : α → β → γ} (i j : Nat) {x y : Str} {xp yp : Pos} (hc : X.calm = true) (nd : X.N.Nodup) (hi : EvI LT X (.Name x xp) iter σ S xs)
    (hl : (xs.flatMap fun x => (ys x).map (f x)).length ≤ sizeLine) (ok : BlkOk X.N X.env.scope scope [(x, i), (y, j)])
    (hi1 : ∀ x v S', x ∈ xs → Ext S S' → rep X.K X.mg S' v x → Blk X scope fun Y => EvI LT Y (.Name y yp) iter1 ((wipe σ [i, j]).set i (some v)) S' (ys x))
    (he : ∀ x y v w S', x ∈ xs → y ∈ ys x → Ext S S' → rep X.K X.mg S' v x → rep X.K X.mg S' w y → Blk X scope fun Y => Ev Y elt ((wipe ((wipe σ [i, j]).set i (some v)) [j]).set j (some w)) S' (f x y))
    (hN : X.N[i]? = some x := by rfl) (hM : X.N[j]? = some y := by rfl) (hx : scope.names.lookup x = some .local := by rfl) (hy : scope.names.lookup y = some .local := by rfl)
    (hs : ∀ x, foldedSetIterable iter X.env x = pure x := by intro _; rfl) (hs1 : ∀ env x, foldedSetIterable iter1 env x = pure x := by intro _ _; rfl) :
    Ev X (.ListComp elt [⟨.Name x xp, iter, [], 0⟩, ⟨.Name y yp, iter1, [], 0⟩] scope pos) σ S (xs.flatMap fun x => (ys x).map (f x)) := fun S1 H1 e1 s Q q => by
  have wi1 : ∃ wi : TI, (Blk X scope fun Y => PI Y (.Name y yp) iter1 wi) ∧ ∀ x v S1, x ∈ xs → Ext S S1 → rep X.K X.mg S1 v x → ∀ H1, Sub S1 H1 → ∀ R : It → Hp → Prop,
      (∀ J S2 H2, At S1 H1 S2 H2 → Yields X.K X.mg J S2 H2 (ys x) → R J H2) → wi ((wipe σ [i, j]).set i (some v)) H1 R := by
    refine ⟨fun σ' H R => ∃ S1 x v, x ∈ xs ∧ Ext S S1 ∧ rep X.K X.mg S1 v x ∧ σ' = (wipe σ [i, j]).set i (some v) ∧ Sub S1 H ∧ ∀ J S2 H2, At S1 H S2 H2 → Yields X.K X.mg J S2 H2 (ys x) → R J H2, fun s H C cl fp => ⟨fun pins s' σ' H' R I hh => ?_⟩, fun x v S1 hx ex rv H1 s1 R q => ⟨S1, x, v, hx, ex, rv, rfl, s1, q⟩⟩
    obtain ⟨S1', x', v, hx, ex, rv, rfl, sb, k⟩ := hh
    exact hi1 x' v S1' hx ex rv s H C cl fp S1' H' (Ext.refl _) sb trivial R k pins s' I
  have te : ∃ te : TE, (Blk X scope fun Y => PE Y elt te) ∧ ∀ x y v w S1, x ∈ xs → y ∈ ys x → Ext S S1 → rep X.K X.mg S1 v x → rep X.K X.mg S1 w y → ∀ H1, Sub S1 H1 → ∀ Q : VK, (∀ u S2 H2, At S1 H1 S2 H2 → rep X.K X.mg S2 u (f x y) → Q u H2) →
      te ((wipe ((wipe σ [i, j]).set i (some v)) [j]).set j (some w)) H1 Q := by
    refine ⟨fun σ' H Q => ∃ S1 x y v w, x ∈ xs ∧ y ∈ ys x ∧ Ext S S1 ∧ rep X.K X.mg S1 v x ∧ rep X.K X.mg S1 w y ∧ σ' = (wipe ((wipe σ [i, j]).set i (some v)) [j]).set j (some w) ∧ Sub S1 H ∧ ∀ u S2 H2, At S1 H S2 H2 → rep X.K X.mg S2 u (f x y) → Q u H2,
      fun s H C cl fp => ⟨fun pins s' σ' H' Q I hh => ?_⟩, fun x y v w S1 hx hy ex rv rw' H1 s1 Q q => ⟨S1, x, y, v, w, hx, hy, ex, rv, rw', rfl, s1, q⟩⟩
    obtain ⟨S1', x', y', v, w, hx, hy, ex, rv, rw', rfl, sb, k⟩ := hh
    exact he x' y' v w S1' hx hy ex rv rw' s H C cl fp S1' H' (Ext.refl _) sb Q k pins s' I
  obtain ⟨wi, pwi, kwi⟩ := wi1
  obtain ⟨te, pte, kte⟩ := te
  refine WE.of (pe_lc2 (own := [(x, i), (y, j)]) (vs1 := [j]) (g := gName i) (g1 := gName j) (tt := tYes) (tt1 := tYes) hc nd piS ok (by intro k hk; simp at hk; subst hk; simp) (blk_name nd hN hx) (fun _ _ _ _ _ => pts_nil) pwi (blk_name nd hM hy) (fun _ _ _ _ _ => pts_nil) pte hs hs1)
    (hi S1 H1 e1 s trivial _ fun J S2 H2 a2 Y D hD => ?_)
  let F : α → List γ := fun x => (ys x).map (f x)
  let Pv : Nat → Hp → Prop := fun k H => k ≤ xs.length ∧ ∃ S' acc, At S2 H2 S' H ∧ S' D = none ∧ H D = some (.lst acc) ∧ Reps X.K X.mg S' acc ((xs.take k).flatMap F)
  refine ⟨fun k m H => m = xs.length - k ∧ Pv k H, ⟨xs.length, by simp, Nat.zero_le _, S2, [], At.apart a2.i hD, a2.i.out hD, upd_same, by simpa using Reps.nil⟩, ?_⟩
  rintro k m H ⟨rfl, hik, S', acc, b, hSD, hHD, racc⟩
  by_cases hlt : k < xs.length
  · refine .inr ?_
    have hxk : xs[k]? = some xs[k] := List.getElem?_eq_getElem hlt
    have mem : xs[k] ∈ xs := List.getElem_mem hlt
    obtain ⟨go, yl⟩ := (Y k S' H b.s b.i (b.z)).1 _ hxk
    refine ⟨go, Pv (k + 1), fun H' p' => ⟨xs.length - (k + 1), by omega, rfl, p'⟩, fun v H' hy' => ?_⟩
    obtain ⟨S3, a3, r3⟩ := yl v H' hy'
    have e3 : Ext S S3 := ((e1.trans a2.s).trans b.s).trans a3.s
    refine ⟨by show wipe ((wipe σ [i, j]).set i (some v)) [i, j] = wipe σ [i, j]; rw [wipe_set List.mem_cons_self]; exact wipe_wipe fun v hv => hv, ?_⟩
    show wi ((wipe σ [i, j]).set i (some v)) H' _
    refine kwi xs[k] v S3 mem e3 r3 H' a3.i _ fun J1 S4 H4 a4 Y1 => ?_
    have tk := take_succ' hxk
    let Pw : Nat → Hp → Prop := fun l G => l ≤ (ys xs[k]).length ∧ ∃ S5 acc, At S2 H2 S5 G ∧ Ext S4 S5 ∧ Frz H4 G ∧ S5 D = none ∧ G D = some (.lst acc) ∧ Reps X.K X.mg S5 acc ((xs.take k).flatMap F ++ ((ys xs[k]).take l).map (f xs[k]))
    refine ⟨fun l m G => m = (ys xs[k]).length - l ∧ Pw l G, ⟨_, rfl, Nat.zero_le _, S4, acc, (b.trans a3).trans a4, Ext.refl _, Frz.ext (Ext.refl _), (a3.trans a4).out hSD hHD, (a3.trans a4).hown hHD hSD, by simpa using racc.ext (a3.trans a4).s⟩, ?_⟩
    rintro l m G ⟨rfl, hil, S5, acc5, b5, x5, z5, o5, g5, racc5⟩
    by_cases hlt2 : l < (ys xs[k]).length
    · refine .inr ?_
      have hyl : (ys xs[k])[l]? = some (ys xs[k])[l] := List.getElem?_eq_getElem hlt2
      have memy : (ys xs[k])[l] ∈ ys xs[k] := List.getElem_mem hlt2
      obtain ⟨go1, yl1⟩ := (Y1 l S5 G x5 b5.i z5).1 _ hyl
      refine ⟨go1, Pw (l + 1), fun G' p' => ⟨(ys xs[k]).length - (l + 1), by omega, rfl, p'⟩, fun w G' hw => ?_⟩
      obtain ⟨S6, a6, r6⟩ := yl1 w G' hw
      refine ⟨by show wipe ((wipe ((wipe σ [i, j]).set i (some v)) [j]).set j (some w)) [j] = _; rw [wipe_set List.mem_cons_self]; exact wipe_wipe fun v hv => hv, ?_⟩
      show te _ G' _
      have x6 : Ext S3 S6 := (a4.s.trans x5).trans a6.s
      refine kte xs[k] _ v w S6 mem memy (e3.trans x6) (rep_ext r3 x6) r6 G' a6.i _ fun u S7 H7 a7 r7 => ?_
      have o7 : S7 D = none := (a6.trans a7).out o5 g5
      have h7 : H7 D = some (.lst acc5) := (a6.trans a7).hown g5 o5
      refine ⟨acc5, h7, ?_, hlt2, S7, acc5 ++ [u], ((b5.trans a6).trans a7).put hD o7, (x5.trans a6.s).trans a7.s, (z5.trans (a6.z.trans a7.z)).put (fun ob u' e => by rw [(a3.trans a4).hown hHD hSD] at e; cases e), o7, upd_same, ?_⟩
      · rw [racc5.len]
        refine Nat.lt_of_lt_of_le ?_ hl
        have es : xs = xs.take k ++ xs[k] :: xs.drop (k + 1) := by rw [List.getElem_cons_drop, List.take_append_drop]
        show _ < (xs.flatMap F).length
        have ef : xs.flatMap F = (xs.take k).flatMap F ++ (F xs[k] ++ (xs.drop (k + 1)).flatMap F) := by
          rw [← List.flatMap_cons, ← List.flatMap_append, ← es]
        rw [ef, List.length_append, List.length_append, List.length_append]
        have : (((ys xs[k]).take l).map (f xs[k])).length < (F xs[k]).length := by
          show _ < ((ys xs[k]).map (f xs[k])).length
          rw [List.length_map, List.length_map, List.length_take]; omega
        omega
      · rw [take_succ' hyl, List.map_append, ← List.append_assoc]
        exact (racc5.ext (a6.trans a7).s).app (.cons r7 .nil)
    · have el : l = (ys xs[k]).length := by omega
      subst el
      refine .inl ⟨(Y1 _ S5 G x5 b5.i z5).2 (Nat.le_refl _), hlt, S5, acc5, b5, o5, g5, ?_⟩
      rw [List.take_length] at racc5
      rw [tk, List.flatMap_append, List.flatMap_cons, List.flatMap_nil, List.append_nil]
      exact racc5
  · have ei : k = xs.length := by omega
    subst ei
    refine .inl ⟨(Y _ S' H b.s b.i (b.z)).2 (Nat.le_refl _), ?_⟩
    have bb := b.settle hD hHD hSD
    refine q _ (upd S' D (.lst acc)) H (a2.trans bb) ⟨D, acc, rfl, upd_same, ?_, hl⟩
    rw [List.take_length] at racc
    exact racc.ext (ext_new hSD)
end
end Tl
namespace Tl
open PySem PySem.Spec PyProof.Rows L2
/-! ### a class's own == and len -/
structure OwnM (K : PySem.W.Frag) (C : Addr) (m : Str) (f : Addr) : Prop where
  at_ : PySem.W.findIn K (.ref C) m = some (some (.ref f))
  fn : PySem.W.isFn K (.ref f) = true
structure OwnNe (K : PySem.W.Frag) (C : Addr) : Prop where
  at_ : PySem.W.findIn K (.ref C) "__ne__" = some (some (.builtin "object.__ne__"))
  top : PySem.W.mroIn K C (.type "object") = some true
section
variable {X : Cx} {pins : List (Addr × Obj)} {σ : L2.St} {H : Hp} {s : Shared} {k : Nat} {f C : Addr} {sp : Sp}
/-- the def at f is called, somewhere below X's place -/
theorem run_at {E : XK} {Q : VK} {us : List Value} {vs : List V} {A : Around} (F : FnR X.prog X.w X.K X.mg X.base (L2.CX X.prog X.w) k f sp) (hr : Room k A) (hf : A.frames = X.A.frames) (hx : Passes (L2.CX X.prog X.w) X E) (I : Inv X pins σ H s) (r : Vals vs us) (h : sp vs H Q E) :
    wpAny (model X.prog X.w) A (call (.ref f) us) (EP X pins σ Q) X.xe s := by
  have e0 : Env0 X.prog X.w X.K X.mg X.base A X.stack s H := by
    have e := I.env0
    exact ⟨by rw [hf]; exact e.frames, e.mod, e.bs, e.bsz, e.funs, e.frf, e.hok, e.bare⟩
  refine wpAny_call (codeAny_mono (F A X.stack s H us vs Q E hr e0 r h) fun r s' hq => ?_)
  cases r with
  | error e => exact hx pins σ H s e s' I hq
  | ok fl =>
    cases fl with
    | ret u => exact I.after hq
    | next => exact False.elim hq
    | brk => exact False.elim hq
    | cont => exact False.elim hq
/-- the type that an operand shows -/
theorem looks_ty {x : V} {u t : Value} (I : Inv X pins σ H s) (rx : RelV x u) (ty : TyX X.K H x t) : PySem.W.Looks (model X.prog X.w) s.heap (typeOf u) t := by
  obtain ⟨P, kit, p, _⟩ := kit_of I rx ty
  exact kit.ty _ _ I.kIn p
/-- an own == promises a bool -/
def rOwn (K : PySem.W.Frag) (C : Addr) (sp : Sp) (E : XK) (neg : Bool) : R2 := fun x y H Q => ∃ a dx fs t, x = .ref a ∧ H a = some (.ins C dx fs) ∧ TyX K H y t ∧ PySem.W.notFirst K C t = true ∧ sp [x, y] H (fun v H1 => ∃ b, v = .bl b ∧ Q (.bl (b != neg)) H1) E
theorem op_ownEq {E : XK} (F : FnR X.prog X.w X.K X.mg X.base (L2.CX X.prog X.w) k f sp) (hr : Room k X.A) (hx : Passes (L2.CX X.prog X.w) X E) (o : OwnM X.K C "__eq__" f) : OpR X (compareOp .Eq) (rOwn X.K C sp E false) := by
  intro pins s σ H x y v u Q I rx ry h
  obtain ⟨a, dx, fs, t, rfl, ha, ty, nf, h⟩ := h
  cases rx
  obtain ⟨mA, J, _⟩ := ins_get I.hok ha
  obtain ⟨od, J, _⟩ := J.look
  obtain ⟨m, hF⟩ := I.fr
  show wpAny (model X.prog X.w) X.A (richCompare .Eq _ u) (EP X pins σ Q) X.xe s
  refine PySem.W.cmp_K (op := .Eq) (tb := t) hr.units0 hF I.ok.mod.kin J (looks_ty I ry ty) nf o.at_ o.fn ?_
  refine thn (run_at (us := [.ref a, u]) (vs := [.ref a, y]) F hr rfl hx I (.cons rfl (.cons ry .nil)) h) fun w s' z => ?_
  obtain ⟨w', H', I', rw', b, ew, q⟩ := z
  subst ew
  cases rw'
  refine ⟨.bl b, H', I', rfl, ?_⟩
  have e : (b != false) = b := by cases b <;> rfl
  rw [e] at q
  exact q
theorem op_ownNe {E : XK} (F : FnR X.prog X.w X.K X.mg X.base (L2.CX X.prog X.w) k f sp) (hr : Room (k + 1) X.A) (hx : Passes (L2.CX X.prog X.w) X E) (o : OwnM X.K C "__eq__" f) (n : OwnNe X.K C) : OpR X (compareOp .NotEq) (rOwn X.K C sp E true) := by
  intro pins s σ H x y v u Q I rx ry h
  obtain ⟨a, dx, fs, t, rfl, ha, ty, nf, h⟩ := h
  cases rx
  obtain ⟨mA, J, _⟩ := ins_get I.hok ha
  obtain ⟨od, J, _⟩ := J.look
  have lt := looks_ty I ry ty
  have X0 := I.kIn
  -- object.__ne__ asks the own ==
  have two : wpAny (model X.prog X.w) X.A (tryCompare (.ref a) "__ne__" u) (fun r s' => ∃ b : Bool, r = some (.bool b) ∧ EP X pins σ Q (.bool b) s') X.xe s := by
    unfold tryCompare
    refine wpAny_bind ?_
    simp only [callSpecialIfBound?, bindSpecialIfBound?]
    refine wpAny_holding (wpAny_bind (wpAny_bind (wpAny_bind (J.type.here ((PySem.W.looks_findIn X0 n.at_).here ?_)))))
    simp only [PySem.F.cmp_object.ne.bind]
    refine wpAny_bind (wpAny_askSetting (wpAny_ite ?_))
    have fin : wpAny (model X.prog X.w) X.A (call (.builtin "object.__ne__") ([.ref a] ++ [u]) >>= fun v => pure (some v)) (fun r s' => wpAny (model X.prog X.w) X.A (match r with
        | some .notImplemented | none => pure none
        | some v => pure (some v)) (fun r s' => ∃ b : Bool, r = some (.bool b) ∧ EP X pins σ Q (.bool b) s') X.xe s') X.xe s := by
      refine wpAny_bind (wpAny_call (codeAny_call_builtin PySem.F.cmp_object.ne.plain PySem.F.cmpEntry_ne (PySem.W.check_slot PySem.F.cmpKind_ne PySem.F.cmpSplit_ne (J.type.andThen (PySem.W.looks_mroIn X0 n.top)) (PySem.F.cmpArgs_ne _ _) ?_)))
      unfold Builtin.«object.__ne__»
      show wpAny (model X.prog X.w) X.A.in1 (cRoomFor "comparison" [.ref a, u] >>= _) _ _ s
      refine wpAny_bind (wpAny_cRoomFor hr.in1.units0 ?_)
      refine wpAny_bind (PySem.W.ifBound_K X0 J o.at_ o.fn ?_)
      refine wpAny_mono (run_at (us := [.ref a, u]) (vs := [.ref a, y]) F hr.in1 rfl hx I (.cons rfl (.cons ry .nil)) h) (fun w s' z => ?_) fun _ _ e => e
      obtain ⟨w', H', I', rw', b, ew, q⟩ := z
      subst ew
      cases rw'
      refine wpAny_bind (wpAny_truthy_bool ?_)
      refine wpAny_pure ?_
      refine wpAny_pure ?_
      refine wpAny_pure ⟨!b, rfl, .bl (!b), H', I', rfl, ?_⟩
      have e : (b != true) = !b := by cases b <;> rfl
      rw [e] at q
      exact q
    split
    · exact wpAny_bind (wpAny_pure (wpAny_pure fin))
    · exact wpAny_tryCatch (wpAny_bind (wpAny_pure (wpAny_pure fin)))
  show wpAny (model X.prog X.w) X.A (richCompare .NotEq _ u) (EP X pins σ Q) X.xe s
  unfold richCompare
  simp only [oneThing_ref]
  refine wpAny_holding (wpAny_bind (wpAny_cRoomFor hr.units0 ?_))
  refine wpAny_bind (J.type.here (wpAny_bind (lt.here ?_)))
  split
  · rename_i q
    have e : PySem.W.subIn X.K t (.ref C) = some false := by
      rcases Bool.or_eq_true_iff.mp nf with e | e
      · rw [beq_iff_eq.mp e] at q; simp at q
      · exact beq_iff_eq.mp e
    refine wpAny_bind ((PySem.W.looks_subIn X0 e).here ?_)
    simp only [Bool.false_eq_true, if_false]
    refine wpAny_bind (wpAny_mono two (fun r s' z => ?_) fun _ _ e => e)
    obtain ⟨b, rfl, hq⟩ := z
    exact wpAny_pure hq
  · refine wpAny_bind (wpAny_pure ?_)
    simp only [Bool.false_eq_true, if_false]
    refine wpAny_bind (wpAny_mono two (fun r s' z => ?_) fun _ _ e => e)
    obtain ⟨b, rfl, hq⟩ := z
    exact wpAny_pure hq
/-- len of an own class -/
theorem call_lenO {E : XK} (F : FnR X.prog X.w X.K X.mg X.base (L2.CX X.prog X.w) k f sp) (hr : Room (k + 1) X.A) (hx : Passes (L2.CX X.prog X.w) X E) (o : OwnM X.K C "__len__" f) :
    CallR X (.builtin "len") (fun xs H Q => ∃ a dx fs, xs = [.ref a] ∧ H a = some (.ins C dx fs) ∧ sp [.ref a] H (fun v H1 => ∃ i : Int, v = .int i ∧ 0 ≤ i ∧ i < 2 ^ 63 ∧ Q (.int i) H1) E) := by
  intro pins s σ H xs us Q I r h
  obtain ⟨a, dx, fs, rfl, ha, h⟩ := h
  obtain ⟨u, rfl, ru⟩ := vals1 r
  obtain rfl : u = Value.ref a := ru
  obtain ⟨mA, J, _⟩ := ins_get I.hok ha
  obtain ⟨od, J, _⟩ := J.look
  refine Calls.call_function_entry kind_len plain_len entry_len (args_len1 _) ?_
  unfold Builtin.«len»
  refine wpAny_bind (m := oneArg "len" _) (wpAny_pure ?_)
  refine wpAny_bind (PySem.W.special_fn I.kIn J o.at_ (beq_iff_eq.mp o.fn) ?_)
  refine wpAny_mono (run_at (us := [.ref a]) (vs := [.ref a]) F hr.in1 rfl hx I (.cons rfl .nil) h) (fun w s' z => ?_) fun _ _ e => e
  obtain ⟨w', H', I', rw', i, ew, i1, i2, q⟩ := z
  subst ew
  obtain ⟨t, rfl⟩ := rw'
  refine wpAny_bind (wpAny_holding (wpAny_pure ?_))
  refine wpAny_bind (wpAny_letGo ?_)
  show wpAny _ _ (if (i : Int) < 0 then _ else _) _ _ _
  rw [if_neg (by omega)]
  show wpAny _ _ (if (i : Int) ≥ 2 ^ 63 then _ else _) _ _ _
  rw [if_neg (by omega)]
  exact wpAny_bind (wpAny_mkInt (wpAny_pure ⟨_, rfl, .int i, H', I'.tok _, ⟨_, rfl⟩, q⟩))
end
end Tl
namespace Tl
open PySem PySem.Spec PyProof.Rows L2
/-! ### plain data, compared by value -/
class Dat (α : Type) extends Rep α where
  toP : α → PyData
  dp : ∀ {K mg S H v x}, toRep.rep K mg S v x → Sub S H → L2.Dp K H v (toP x)
  lay : ∀ x, (toP x).canLay0 = true
  deep : Nat
  dle : ∀ x, (toP x).depth ≤ deep
  eqv : ∀ x y, PyData.eqv (toP x) (toP y) = true ↔ x = y
instance : Dat Int where
  toP := .int
  dp := fun {K mg S H v x} h _ => (show v = .int x from h) ▸ .int x
  lay := fun _ => by simp [PyData.canLay0]
  deep := 0
  dle := fun _ => by simp [PyData.depth]
  eqv := fun x y => by simp [PyData.eqv]
instance : Dat Bool where
  toP := .bool
  dp := fun {K mg S H v x} h _ => (show v = .bl x from h) ▸ .bl x
  lay := fun _ => by simp [PyData.canLay0]
  deep := 0
  dle := fun _ => by simp [PyData.depth]
  eqv := fun x y => by simp [PyData.eqv]
instance {α β : Type} [Dat α] [Dat β] : Dat (α × β) where
  toP := fun x => .tuple [Dat.toP x.1, Dat.toP x.2]
  dp := fun {K mg S H v x} ⟨t, a, b, h1, h2, h3, h4⟩ s => h1 ▸ .tup (s.tup h2) (.cons (Dat.dp h3 s) (.cons (Dat.dp h4 s) .nil))
  lay := fun x => by
    have h1 := Dat.lay x.1
    have h2 := Dat.lay x.2
    simp [PyData.canLay0, PyData.canLayAll0, h1, h2]
  deep := max (Dat.deep α) (Dat.deep β) + 1
  dle := fun x => by
    have h1 := Dat.dle x.1
    have h2 := Dat.dle x.2
    simp only [PyData.depth, PyData.depthAll]
    omega
  eqv := fun x y => by
    have h1 := Dat.eqv x.1 y.1
    have h2 := Dat.eqv x.2 y.2
    simp [PyData.eqv, PyData.eqvAll, h1, h2, Prod.ext_iff]
theorem dpAll {α : Type} [Dat α] {K : PySem.W.Frag} {mg : Str → Option Value} {S H : Hp} {vs : List V} {xs : List α} (h : Reps K mg S vs xs) (s : Sub S H) : L2.DpAll K H vs (xs.map Dat.toP) := by
  induction h with
  | nil => exact .nil
  | cons h _ ih => exact .cons (Dat.dp h s) ih
theorem layAll {α : Type} [Dat α] : ∀ xs : List α, PyData.canLayAll0 (xs.map Dat.toP) = true
  | [] => by simp [PyData.canLayAll0]
  | x :: xs => by simp [PyData.canLayAll0, Dat.lay x, layAll xs]
theorem deepAll {α : Type} [Dat α] : ∀ xs : List α, PyData.depthAll (xs.map Dat.toP) ≤ Dat.deep α
  | [] => by simp [PyData.depthAll]
  | x :: xs => by
    have h1 := Dat.dle x
    have h2 := deepAll xs
    simp only [List.map_cons, PyData.depthAll]
    omega
theorem eqvAll {α : Type} [Dat α] : ∀ xs ys : List α, PyData.eqvAll (xs.map Dat.toP) (ys.map Dat.toP) = true ↔ xs = ys
  | [], [] => by simp [PyData.eqvAll]
  | [], _ :: _ => by simp [PyData.eqvAll]
  | _ :: _, [] => by simp [PyData.eqvAll]
  | x :: xs, y :: ys => by simp [PyData.eqvAll, Dat.eqv x y, eqvAll xs ys]
instance {α : Type} [Dat α] : Dat (List α) where
  toP := fun x => .list (x.map Dat.toP)
  dp := fun {K mg S H v x} ⟨a, ys, h1, h2, h3, _⟩ s => h1 ▸ .lst (s.lst h2) (dpAll h3 s)
  lay := fun x => by simp [PyData.canLay0, layAll x]
  deep := Dat.deep α + 1
  dle := fun x => by
    have := deepAll x
    simp only [PyData.depth]
    omega
  eqv := fun x y => by simp [PyData.eqv, eqvAll x y]
theorem dat_shaped {α : Type} [Dat α] (h : Dat.deep α ≤ 64) (x : α) : SeqAt.shaped (Dat.toP x) = true := by
  unfold SeqAt.shaped
  rw [Dat.lay x, Bool.true_and]
  exact decide_eq_true (Nat.le_trans (Dat.dle x) h)
theorem dat_eqv {α : Type} [Dat α] [DecidableEq α] (x y : α) : PyData.eqv (Dat.toP x) (Dat.toP y) = decide (x = y) := by
  have := Dat.eqv x y
  by_cases h : x = y
  · rw [this.mpr h, decide_eq_true h]
  · rw [decide_eq_false h]
    cases e : PyData.eqv (Dat.toP x) (Dat.toP y) with
    | true => exact absurd (this.mp e) h
    | false => rfl
section
variable {X : Cx} {a b c e : Expr} {σ : L2.St} {S : Hp} {p pos : Pos}
theorem ec_eqD {α : Type} [Dat α] [DecidableEq α] {x y : α} (hu : X.A.units + 64 < cLine) (ha : Ev X a σ S x) (hb : Ev X b σ S y) (hd : Dat.deep α ≤ 64 := by decide) : EvC X .Eq a b σ S (decide (x = y)) :=
  ec_op (op_eqD hu) ha hb fun v u S2 H2 _ s rv ru Q q => ⟨Dat.toP x, Dat.toP y, Dat.dp rv s, Dat.dp ru s, dat_shaped hd x, dat_shaped hd y, by rw [dat_eqv]; exact q⟩
theorem ec_neD {α : Type} [Dat α] [DecidableEq α] {x y : α} (hu : X.A.units + 64 < cLine) (ha : Ev X a σ S x) (hb : Ev X b σ S y) (hd : Dat.deep α ≤ 64 := by decide) : EvC X .NotEq a b σ S (!decide (x = y)) :=
  ec_op (op_neD hu) ha hb fun v u S2 H2 _ s rv ru Q q => ⟨Dat.toP x, Dat.toP y, Dat.dp rv s, Dat.dp ru s, dat_shaped hd x, dat_shaped hd y, by rw [dat_eqv]; exact q⟩
theorem dat_any {α : Type} [Dat α] [DecidableEq α] (x : α) : ∀ xs : List α, (xs.map Dat.toP).any (fun z => PyData.eqv z (Dat.toP x)) = decide (x ∈ xs)
  | [] => by simp
  | y :: ys => by
    rw [List.map_cons, List.any_cons, dat_any x ys, dat_eqv]
    by_cases h : y = x
    · subst h; simp
    · have : x ≠ y := fun z => h z.symm
      simp [h, this]
theorem ec_inD {α : Type} [Dat α] [DecidableEq α] {x : α} {xs : List α} (hu : X.A.units + 65 < cLine) (ha : Ev X a σ S x) (hb : Ev X b σ S xs) (hd : Dat.deep α + 1 ≤ 64 := by decide) : EvC X .In a b σ S (decide (x ∈ xs)) :=
  ec_op (op_inD hu) ha hb fun v u S2 H2 _ s rv ru Q q => ⟨Dat.toP x, xs.map Dat.toP, Dat.dp rv s, Dat.dp ru s, dat_shaped (by omega) x, dat_shaped (α := List α) hd xs, by rw [dat_any]; exact q⟩
theorem ec_ninD {α : Type} [Dat α] [DecidableEq α] {x : α} {xs : List α} (hu : X.A.units + 65 < cLine) (ha : Ev X a σ S x) (hb : Ev X b σ S xs) (hd : Dat.deep α + 1 ≤ 64 := by decide) : EvC X .NotIn a b σ S (!decide (x ∈ xs)) :=
  ec_op (op_notInD hu) ha hb fun v u S2 H2 _ s rv ru Q q => ⟨Dat.toP x, xs.map Dat.toP, Dat.dp rv s, Dat.dp ru s, dat_shaped (by omega) x, dat_shaped (α := List α) hd xs, by rw [dat_any]; exact q⟩
end
end Tl
namespace Tl
open PySem PySem.Spec PyProof.Rows L2
/-! ### slices, a list's methods, enumerate -/
def cut {α : Type} (xs : List α) (lo hi : Option Int) : List α := (xs.drop (HT.sIx xs.length 0 lo)).take (HT.sIx xs.length xs.length hi - HT.sIx xs.length 0 lo)
theorem cut_len {α : Type} (xs : List α) (lo hi : Option Int) : (cut xs lo hi).length ≤ xs.length := by
  unfold cut
  rw [List.length_take, List.length_drop]
  omega
theorem cut_to {α : Type} (xs : List α) (k : Nat) : cut xs none (some (k : Int)) = xs.take k := by
  unfold cut
  rw [HT.sIx_none, HT.sIx_nat, List.drop_zero, Nat.sub_zero]
  by_cases h : k ≤ xs.length
  · rw [Nat.min_eq_left h]
  · rw [Nat.min_eq_right (by omega), List.take_length, List.take_of_length_le (by omega)]
theorem cut_from {α : Type} (xs : List α) (k : Nat) : cut xs (some (k : Int)) none = xs.drop k := by
  unfold cut
  rw [HT.sIx_none, HT.sIx_nat]
  by_cases h : k ≤ xs.length
  · rw [Nat.min_eq_left h, List.take_of_length_le (by rw [List.length_drop]; omega)]
  · rw [Nat.min_eq_right (by omega), List.drop_length, List.drop_of_length_le (by omega)]; simp
theorem cut_but {α : Type} (xs : List α) : cut xs none (some (-1)) = xs.dropLast := by
  unfold cut
  have e : HT.sIx xs.length xs.length (some (-1)) = xs.length - 1 := by
    show (if (-1 : Int) < 0 then ((-1 : Int) + (xs.length : Int)).toNat else min (-1 : Int).toNat xs.length) = xs.length - 1
    rw [if_pos (by decide)]
    omega
  rw [HT.sIx_none, List.drop_zero, Nat.sub_zero, List.dropLast_eq_take, e]
/-- enumerate -/
def enumI {α : Type} (xs : List α) : List (Int × α) := xs.zipIdx.map fun q => ((q.2 : Int), q.1)
theorem enumI_at {α : Type} {xs : List α} {i : Nat} {x : Int × α} (h : (enumI xs)[i]? = some x) : ∃ y, xs[i]? = some y ∧ x = ((i : Int), y) := by
  unfold enumI at h
  rw [List.getElem?_map, List.getElem?_zipIdx] at h
  cases e : xs[i]? with
  | none => rw [e] at h; cases h
  | some y =>
    rw [e] at h
    refine ⟨y, rfl, ?_⟩
    have := (Option.some.inj h).symm
    simpa using this
theorem enumI_len {α : Type} (xs : List α) : (enumI xs).length = xs.length := by simp [enumI]
theorem reps_cut {α : Type} [Rep α] {K : PySem.W.Frag} {mg : Str → Option Value} {S : Hp} {vs : List V} {xs : List α} (h : Reps K mg S vs xs) (lo hi : Option Int) : Reps K mg S (cutV vs lo hi) (cut xs lo hi) := by
  unfold cutV cut
  rw [h.len]
  exact (h.drop _).take _
section
variable {X : Cx} {a b c e lo hi : Expr} {σ : L2.St} {S : Hp} {p p1 p2 p3 pos apos : Pos}
theorem en_slTo {α : Type} [Rep α] {xs : List α} {k : Int} (ha : Ev X a σ S xs) (hk : Ev X hi σ S k) : EvN X (.Subscript a (.Slice none (some hi) none p2) pos) σ S (cut xs none (some k)) := fun S1 H1 e1 s Q q =>
  WE.of (pe_slice sl_list peS po_none (po_some peS)) (ha S1 H1 e1 s _ fun v S2 H2 a2 ⟨l, ys, h1, h2, h3, h4⟩ => hk S2 H2 (e1.trans a2.s) a2.i _ fun u S3 H3 a3 r3 =>
    ⟨k, r3, l, ys, h1, a3.i.lst (a3.s _ _ h2), fun p' hp => q p' S3 _ _ ((a2.trans a3).trans (At.apart a3.i hp)) ((a2.trans a3).non hp) (a3.i.out hp) upd_same ((reps_cut h3 none (some k)).ext a3.s) (Nat.le_trans (cut_len _ _ _) h4)⟩)
theorem en_slFrom {α : Type} [Rep α] {xs : List α} {k : Int} (ha : Ev X a σ S xs) (hk : Ev X lo σ S k) : EvN X (.Subscript a (.Slice (some lo) none none p2) pos) σ S (cut xs (some k) none) := fun S1 H1 e1 s Q q =>
  WE.of (pe_slice sl_list peS (po_some peS) po_none) (ha S1 H1 e1 s _ fun v S2 H2 a2 ⟨l, ys, h1, h2, h3, h4⟩ => hk S2 H2 (e1.trans a2.s) a2.i _ fun u S3 H3 a3 r3 =>
    ⟨k, r3, l, ys, h1, a3.i.lst (a3.s _ _ h2), fun p' hp => q p' S3 _ _ ((a2.trans a3).trans (At.apart a3.i hp)) ((a2.trans a3).non hp) (a3.i.out hp) upd_same ((reps_cut h3 (some k) none).ext a3.s) (Nat.le_trans (cut_len _ _ _) h4)⟩)
/-- xs[::-1] -/
theorem en_rev {α : Type} [Rep α] {xs : List α} {k : Nat} (ha : Ev X a σ S xs) : EvN X (.Subscript a (.Slice none none (some (.UnaryOp .USub (.Constant (.int 1) k p1) p2)) p3) pos) σ S xs.reverse := fun S1 H1 e1 s Q q =>
  WE.of (pe_revL peS) (ha S1 H1 e1 s _ fun v S2 H2 a2 ⟨l, ys, h1, h2, h3, h4⟩ =>
    ⟨l, ys, h1, a2.i.lst h2, fun p' hp => q p' S2 _ _ (a2.trans (At.apart a2.i hp)) (a2.non hp) (a2.i.out hp) upd_same h3.reverse (by rw [List.length_reverse]; exact h4)⟩)
/-- enumerate(xs) -/
theorem ei_enum {α : Type} [Rep α] {xs : List α} {elts : List Expr} {kk : Nat} {tpos : Pos} (hm : X.mg "enumerate" = none) (ha : Ev X a σ S xs) (hg : Gl X "enumerate" := by rfl)
    (hs : starEach [a] X.env = [(false, eval a X.env)] := by rfl) (hs' : starEach (a :: []) X.env = (false, eval a X.env) :: starEach [] X.env := by rfl) :
    EvI LT X (.Tuple elts kk tpos) (.Call (.Name "enumerate" p) [a] [] pos) σ S (enumI xs) := fun S1 H1 e1 s _ R q =>
  WI.of (pi_enum hg hm (pa_cons peS pa_nil hs') hs) (ha S1 H1 e1 s _ fun v S2 H2 a2 ⟨l, ys, h1, h2, h3, h4⟩ =>
    ⟨l, ys, by rw [h1], a2.i.lst h2, q _ S2 H2 a2 fun i S' H bs bi _ => by
      have sq : SqL X.K H l ys := bi.lst (bs l _ h2)
      refine ⟨fun x hx => ?_, fun hl => ⟨ys, sq, by rw [h3.len, ← enumI_len xs]; exact hl⟩⟩
      obtain ⟨y, hy, rfl⟩ := enumI_at hx
      obtain ⟨w, hw, rw'⟩ := h3.get hy
      refine ⟨⟨ys, w, sq, hw⟩, fun v H' hv => ?_⟩
      obtain ⟨T, x', rfl, hT, rfl, hx'⟩ := hv
      have ew := hx' ys sq
      rw [hw] at ew
      cases ew
      refine ⟨upd S' T (.tup [.int (i : Nat), w]), At.new bi hT, T, _, _, rfl, upd_same, rfl, rep_ext rw' (bs.trans (ext_new (bi.out hT)))⟩⟩)
/-- x.append(e), x a list of one's own in a slot -/
theorem ws_append {H : Hp} {D : Ends} {rest : List Stmt} {i : Nat} {z : Str} {zp cpos : Pos} {l : Addr} {ys : List V} {r : V → Hp → Prop} (hs : σ[i]? = some (some (.ref l))) (he : EvR X e σ S r) (s : Sub S H) (hl : H l = some (.lst ys)) (hS : S l = none) (hz : ys.length < sizeLine)
    (k : ∀ v S' H', At S H S' H' → r v S' → S' l = none → H' l = some (.lst ys) → WSs X rest D σ (upd H' l (.lst (ys ++ [v]))))
    (hN : X.N[i]? = some z := by rfl) (hv : Vis X.env.scope z := by first | exact Or.inl rfl | exact Or.inr (Or.inl rfl)) (hd : (z == ("__debug__" : Str)) = false := by decide) (hcd : (z == ("__classdict__" : Str)) = false := by decide)
    (hbase : attributeBase (.Name z zp) "append" X.env (eval (.Name z zp) X.env) = eval (.Name z zp) X.env := by rfl)
    (hfew : ((backTo cpos (starEach (e :: []) X.env)).all (fun x => !x.1) && (backToKw cpos (keywordEach [] X.env)).all (fun x => x.1.isSome)
      && decide ((e :: []).length + ([] : List Keyword).length + (if ([] : List Keyword).isEmpty then 0 else 1) < 30)) = true := by rfl)
    (hline : (apos.endLine == cpos.line) = true := by rfl) (hst : starEach (e :: []) X.env = (false, eval e X.env) :: starEach [] X.env := by rfl) (hpl : (backTo cpos (starEach [] X.env)).any (·.1) = false := by rfl)
    (hsw : swapsWith (.Call (.Attribute (.Name z zp) "append" apos) [e] [] cpos) none pos.line X.env = pure false := by rfl) : WSs X (.Expr (.Call (.Attribute (.Name z zp) "append" apos) [e] [] cpos) pos :: rest) D σ H :=
  WSs.seq (WS.of (ps_expr (pe_bm PySem.F.plainAttrs_list PySem.F.slot_list_append PySem.F.type_list_append mt_append (pe_var hN hv hd hcd) (pa_cons peS pa_nil hst) hbase hfew hline hst hpl) hsw)
    ⟨.ref l, hs, .inl ⟨rfl, ys, .inl (.inl hl)⟩, he S H (Ext.refl S) s _ fun v S' H' a r' => ⟨l, ys, v, rfl, rfl, a.hown hl hS, hz, k v S' H' a r' (a.out hS hl) (a.hown hl hS)⟩⟩)
/-- o.clear(), o a new list -/
theorem ws_clearN {α : Type} [Rep α] {xs : List α} {H : Hp} {D : Ends} {rest : List Stmt} {cpos : Pos} (he : EvN X e σ S xs) (s : Sub S H) (k : ∀ S' H', At S H S' H' → WSs X rest D σ H')
    (hbase : attributeBase e "clear" X.env (eval e X.env) = eval e X.env := by rfl) (hline : (apos.endLine == cpos.line) = true := by rfl)
    (hsw : swapsWith (.Call (.Attribute e "clear" apos) [] [] cpos) none pos.line X.env = pure false := by rfl) : WSs X (.Expr (.Call (.Attribute e "clear" apos) [] [] cpos) pos :: rest) D σ H :=
  WSs.seq (WS.of (ps_expr (pe_bm0 PySem.F.plainAttrs_list PySem.F.slot_list_clear PySem.F.type_list_clear mt_clear peS hbase hline) hsw)
    (he S H (Ext.refl S) s _ fun l S' H' ys a n1 n2 h r z => ⟨.inl ⟨rfl, ys, .inl (.inl h)⟩, l, ys, rfl, rfl, h, k S' (upd H' l (.lst [])) (a.put n1 n2)⟩))
end
end Tl
namespace Tl
open PySem PySem.Spec PyProof.Rows L2
/-! ### streams: unmarked while they are read, poured anew -/
theorem At.unmark {S H S' H' : Hp} {p : Addr} {o : HO} (a : At (upd S p o) H S' H') (hp : H p = some o) (h : S p = some mkS) (q : Stream (some o)) (m : isMk o = false := by rfl) : At S H S H' := by
  have hp' : H' p = some o := a.hstd hp upd_same m
  refine ⟨Ext.refl S, fun b u e => ?_, fun b u n e => a.h b u (fun w hw => ?_) e, fun b u e e2 => (by rw [e] at e2; cases e2), a.z⟩
  · by_cases hb : b = p
    · subst hb
      rw [h] at e
      cases e
      exact .inr ⟨rfl, by rw [hp']; exact q⟩
    · exact a.i b u (a.s b u (by rw [upd_ne hb]; exact e))
  · by_cases hb : b = p
    · subst hb
      rw [upd_same] at hw
      cases hw
      exact m
    · rw [upd_ne hb] at hw
      exact n w hw
theorem At.pour {S H : Hp} {p : Addr} {o : HO} (s : Sub S H) (h : S p = some mkS) (q : Stream (some o)) : At S H S (upd H p o) := by
  refine ⟨Ext.refl S, s.flow h q, fun b u n e => ?_, fun b u e e2 => (by rw [e] at e2; cases e2), fun b ob u e => ?_⟩
  · rw [upd_ne (fun z => by have := n mkS (by rw [z]; exact h); cases this)]
    exact e
  · rw [upd_ne (fun z => by
      obtain ⟨i, j, q1, _⟩ := s.stream h
      rw [z, q1] at e
      cases e)]
    exact e
theorem At.mark {S0 H0 S H : Hp} {p : Addr} (a : At S0 H0 S H) (h0 : H0 p = none) (hs : S p = none) (q : Stream (H p)) : At S0 H0 (upd S p mkS) H := by
  refine ⟨a.s.trans (ext_new hs), a.i.mark q, a.h, fun x u hx hx2 => ?_, a.z⟩
  by_cases e : x = p
  · subst e; exact .inl h0
  · rw [upd_ne e] at hx2; exact a.f x u hx hx2
/-- the stream itself -/
inductive Strm where | it
instance : Rep Strm where
  rep := fun _ _ S v _ => ∃ p, v = .ref p ∧ S p = some mkS
  ext := fun e ⟨p, h1, h2⟩ => ⟨p, h1, e _ _ h2⟩

/-! ### expressions that give some value of a kind -/
def EvP {α : Type} [Rep α] (X : Cx) (e : Expr) (σ : L2.St) (S : Hp) (φ : α → Prop) : Prop := EvR X e σ S fun v S' => ∃ x, φ x ∧ rep X.K X.mg S' v x
abbrev EvAP {α : Type} [Args α] (X : Cx) (es : List Expr) (σ : L2.St) (S : Hp) (φ : α → Prop) : Prop := EvA X es σ S fun vs S' => ∃ x, φ x ∧ Args.args X.K X.mg S' vs x
/-- the promise of a def that gives some value of a kind -/
def spA {α β : Type} [Args α] [Rep β] (G : Gx) (pre : α → Prop) (R : α → β → Prop) : Sp := fun vs H Q _ => ∃ S x, Sub S H ∧ Args.args G.K G.mg S vs x ∧ pre x ∧ ∀ y, R x y → ∀ w S' H', At S H S' H' → rep G.K G.mg S' w y → Q w H'
theorem spA_len {α β : Type} [Args α] [Rep β] {G : Gx} {pre : α → Prop} {R : α → β → Prop} {ps : List Str} (h : ps.length = Args.len α) : ∀ vs H Q E, spA G pre R vs H Q E → vs.length = ps.length := fun _ _ _ _ ⟨_, _, _, h1, _⟩ => (Args.ok h1).trans h.symm
section
variable {G : Gx} {X : Cx} {a b c e : Expr} {es : List Expr} {σ : L2.St} {S : Hp} {p pos apos : Pos} {x : Str} {ps : List Str} {n : Nat}
theorem evp_of {α : Type} [Rep α] {y : α} (h : Ev X e σ S y) : EvP X e σ S (fun z => z = y) := fun S1 H1 e1 s Q q => h S1 H1 e1 s Q fun v S2 H2 a2 r2 => q v S2 H2 a2 ⟨y, rfl, r2⟩
theorem EvP.mono {α : Type} [Rep α] {φ ψ : α → Prop} (h : EvP X e σ S φ) (k : ∀ x, φ x → ψ x) : EvP X e σ S ψ := fun S1 H1 e1 s Q q => h S1 H1 e1 s Q fun v S2 H2 a2 ⟨y, hy, r2⟩ => q v S2 H2 a2 ⟨y, k y hy, r2⟩
theorem evp_pp {α : Type} [Rep α] {y : α} {φ : α → Prop} (h : Ev X e σ S y) (k : φ y) : EvP X e σ S φ := EvP.mono (evp_of h) fun z hz => by rw [hz]; exact k
theorem evp_opI {φ ψ χ : Int → Prop} {op : Operator} {g : Int → Int → Int} {C : Int → Int → Prop} (ho : OpR X (binaryOp op) (rI C fun i j => .int (g i j))) (ha : EvP X a σ S φ) (hb : EvP X b σ S ψ) (hc : ∀ i j, φ i → ψ j → C i j ∧ χ (g i j)) : EvP X (.BinOp a op b pos) σ S χ := fun S1 H1 e1 s Q q =>
  WE.of (pe_op ho peS peS) (ha S1 H1 e1 s _ fun v S2 H2 a2 ⟨i, hi, ri⟩ => hb S2 H2 (e1.trans a2.s) a2.i _ fun u S3 H3 a3 ⟨j, hj, rj⟩ =>
    ⟨i, j, ri, rj, (hc i j hi hj).1, q _ S3 H3 (a2.trans a3) ⟨_, (hc i j hi hj).2, rfl⟩⟩)
theorem evp_add {φ ψ χ : Int → Prop} (ha : EvP X a σ S φ) (hb : EvP X b σ S ψ) (hc : ∀ i j, φ i → ψ j → χ (i + j)) : EvP X (.BinOp a .Add b pos) σ S χ := fun S1 H1 e1 s Q q =>
  WE.of (pe_op op_add peS peS) (ha S1 H1 e1 s _ fun v S2 H2 a2 ⟨i, hi, ri⟩ => hb S2 H2 (e1.trans a2.s) a2.i _ fun u S3 H3 a3 ⟨j, hj, rj⟩ =>
    ⟨i, j, ri, rj, q _ S3 H3 (a2.trans a3) ⟨_, hc i j hi hj, rfl⟩⟩)
theorem evp_tup2 {α β : Type} [Rep α] [Rep β] {φ : α → Prop} {ψ : β → Prop} {χ : α × β → Prop} {k : Nat} (ha : EvP X a σ S φ) (hb : EvP X b σ S ψ) (hc : ∀ x y, φ x → ψ y → χ (x, y)) (h1 : starEach (a :: [b]) X.env = (false, eval a X.env) :: starEach [b] X.env := by rfl) (h2 : starEach (b :: []) X.env = (false, eval b X.env) :: starEach [] X.env := by rfl) :
    EvP X (.Tuple [a, b] k pos) σ S χ := fun S1 H1 e1 s Q q =>
  WE.of (pe_tup (pa_cons peS (pa_cons peS pa_nil h2) h1)) (ha S1 H1 e1 s _ fun v S2 H2 a2 ⟨x, hx, r2⟩ => hb S2 H2 (e1.trans a2.s) a2.i _ fun u S3 H3 a3 ⟨y, hy, r3⟩ =>
    ⟨by show 2 ≤ sizeLine; decide, fun t ht => q _ _ _ ((a2.trans a3).trans (At.new a3.i ht)) ⟨(x, y), hc x y hx hy, t, v, u, rfl, upd_same, rep_ext r2 (a3.s.trans (ext_new (a3.i.out ht))), rep_ext r3 (ext_new (a3.i.out ht))⟩⟩)
theorem eap_nil {φ : Unit → Prop} (h : φ ()) : EvAP X [] σ S φ := fun S1 H1 _ s Q q => WA.of pa_nil (q _ S1 H1 (At.refl s) ⟨(), h, rfl⟩)
theorem eap_cons {α β : Type} [Rep α] [Args β] {φ : α → Prop} {ψ : β → Prop} {χ : α × β → Prop} (ha : EvP X e σ S φ) (hs : EvAP X es σ S ψ) (hc : ∀ x y, φ x → ψ y → χ (x, y)) (hst : starEach (e :: es) X.env = (false, eval e X.env) :: starEach es X.env := by rfl) : EvAP X (e :: es) σ S χ := fun S1 H1 e1 s Q q =>
  WA.of (pa_cons peS paS hst) (ha S1 H1 e1 s _ fun v S2 H2 a2 ⟨x, hx, r2⟩ => hs S2 H2 (e1.trans a2.s) a2.i _ fun vs S3 H3 a3 ⟨y, hy, r3⟩ => q _ S3 H3 (a2.trans a3) ⟨(x, y), hc x y hx hy, v, vs, rfl, rep_ext r2 a3.s, r3⟩)
/-- f(e, ..) that gives some value of a kind -/
theorem evp_callA {α β : Type} [Args α] [Rep β] {pre : α → Prop} {R : α → β → Prop} {φ : α → Prop} {χ : β → Prop} (on : On G X) (F : Df G x ps n (spA G pre R)) (hr : Room n X.A) (ha : EvAP X (e :: es) σ S φ) (hp : ∀ y, φ y → pre y) (hc : ∀ y z, φ y → R y z → χ z) (hg : Gl X x := by rfl)
    (hdb : (x == ("__debug__" : Str)) = false := by decide) (he : starEach (e :: es) X.env = (false, eval e X.env) :: starEach es X.env := by rfl) (hpl : (backTo pos (starEach es X.env)).any (·.1) = false := by rfl) : EvP X (.Call (.Name x p) (e :: es) [] pos) σ S χ := fun S1 H1 e1 s Q q => by
  obtain ⟨fa, hm, F⟩ := F.ex
  obtain ⟨fd, h1, h2⟩ := F.fnok on
  refine WE.of (pe_call (dvs := []) (ds := []) (E := E0) h1 hr hg (by rw [on.mg]; exact hm) (by rw [on.K]; exact F.kp) h2 .nil passL paS hdb he hpl) ?_
  refine ha S1 H1 e1 s _ fun vs S2 H2 a2 ⟨y, hy, r2⟩ => ?_
  rw [List.append_nil]
  rw [on.K, on.mg] at r2
  refine ⟨S2, y, a2.i, r2, hp y hy, fun z hz w S3 H3 a3 r3 => q w S3 H3 (a2.trans a3) ⟨z, hc y z hy hz, ?_⟩⟩
  rw [on.K, on.mg]; exact r3
/-- an item of a list -/
theorem ev_item {α : Type} [Rep α] {xs : List α} {y : α} {i : Int} (ha : Ev X a σ S xs) (hb : Ev X b σ S i) (hy : atI xs i = some y) (hs : PlainIx b := by intro _ _; rfl) : Ev X (.Subscript a b pos) σ S y := fun S1 H1 e1 s Q q =>
  WE.of (pe_ix ix_list peS peS hs) (ha S1 H1 e1 s _ fun v S2 H2 a2 ⟨l, ys, h1, h2, h3, _⟩ => hb S2 H2 (e1.trans a2.s) a2.i _ fun u S3 H3 a3 r3 => by
    have hy' : ∃ w, atI ys i = some w ∧ rep X.K X.mg S2 w y := by
      unfold atI at hy ⊢
      rw [h3.len]
      obtain ⟨j, e1, e2⟩ := Option.bind_eq_some_iff.mp hy
      obtain ⟨w, e3, e4⟩ := h3.get e2
      exact ⟨w, by rw [e1]; exact e3, e4⟩
    obtain ⟨w, hw, rw'⟩ := hy'
    exact ⟨l, ys, i, w, h1, r3, a3.i.lst (a3.s _ _ h2), hw, q w S3 H3 (a2.trans a3) (rep_ext rw' a3.s)⟩)
/-- [a, b] of ints -/
theorem en_two {α : Type} [Rep α] {x y : α} (ha : Ev X a σ S x) (hb : Ev X b σ S y) (h1 : starEach (a :: [b]) X.env = (false, eval a X.env) :: starEach [b] X.env := by rfl) (h2 : starEach (b :: []) X.env = (false, eval b X.env) :: starEach [] X.env := by rfl) : EvN X (.List [a, b] pos) σ S [x, y] := fun S1 H1 e1 s Q q =>
  WE.of (pe_lst (pa_cons peS (pa_cons peS pa_nil h2) h1)) (ha S1 H1 e1 s _ fun v S2 H2 a2 r2 => hb S2 H2 (e1.trans a2.s) a2.i _ fun u S3 H3 a3 r3 =>
    ⟨by show 2 ≤ sizeLine; decide, fun l hl => q l S3 _ [v, u] ((a2.trans a3).trans (At.apart a3.i hl)) ((a2.trans a3).non hl) (a3.i.out hl) upd_same (.cons (rep_ext r2 a3.s) (.cons r3 .nil)) (by show 2 ≤ sizeLine; decide)⟩)
end
section
variable {X : Cx} {a b e : Expr} {σ : L2.St} {S H : Hp} {De : Ends} {pos tp tp2 : Pos} {rest : List Stmt}
/-- xs[i] = e, xs a list of one's own in a slot -/
theorem ws_put {i : Nat} {z : Str} {zp : Pos} {l : Addr} {ys : List V} {r : V → Hp → Prop} {k : Int} {n : Nat} (hs : σ[i]? = some (some (.ref l))) (he : EvR X e σ S r) (hb : Ev X b σ S k) (s : Sub S H) (hl : ∀ S' H', At S H S' H' → H' l = some (.lst ys)) (hk : ixN ys.length k = some n)
    (q : ∀ v S' H', At S H S' H' → r v S' → WSs X rest De σ (upd H' l (.lst (ys.set n v)))) (rx : ∀ {v S S'}, Ext S S' → r v S → r v S')
    (hN : X.N[i]? = some z := by rfl) (hv : Vis X.env.scope z := by first | exact Or.inl rfl | exact Or.inr (Or.inl rfl)) (hd : (z == ("__debug__" : Str)) = false := by decide) (hcd : (z == ("__classdict__" : Str)) = false := by decide)
    (hsw : swapsWithSole [.Subscript (.Name z zp) b tp] e pos.line X.env = pure false := by rfl) (hw : swappedStores [.Subscript (.Name z zp) b tp] e X.env = pure none := by rfl)
    (h1 : (assignEach [.Subscript (.Name z zp) b tp] X.env).map (·.2) = [assign (.Subscript (.Name z zp) b tp) X.env] := by rfl)
    (ha : ∀ v, assign (.Subscript (.Name z zp) b tp) X.env v = (do
      let ov ← holding [v] (eval (.Name z zp) X.env)
      let iv ← holding [v, ov] (eval b X.env)
      standAt tp
      holding [v, ov, iv] (setItem ov iv v)
      release [v, ov, iv] []) := by intro _; rfl) : WSs X (.Assign [.Subscript (.Name z zp) b tp] e pos :: rest) De σ H :=
  WSs.seq (WS.of (ps_asg peS (pg_sub (pe_var hN hv hd hcd) peS set_list ha) hsw hw h1) (he S H (Ext.refl S) s _ fun v S1 H1 a1 r1 =>
    ⟨.ref l, hs, hb S1 H1 a1.s a1.i _ fun u S2 H2 a2 r2 => ⟨l, ys, k, n, rfl, r2, hl S2 H2 (a1.trans a2), hk, q v S2 H2 (a1.trans a2) (rx a2.s r1)⟩⟩))
/-- x, y = a, b -/
theorem ws_par {α β : Type} [Rep α] [Rep β] {φ : α → Prop} {ψ : β → Prop} {i j : Nat} {x y : Str} {px py pt : Pos} {kt : Nat} {k2 : Nat} {pt2 : Pos} (hc : X.calm = true) (nd : X.N.Nodup) (ha : EvP X a σ S φ) (hb : EvP X b σ S ψ) (s : Sub S H)
    (q : ∀ vx vy u w S' H', At S H S' H' → φ u → ψ w → rep X.K X.mg S' vx u → rep X.K X.mg S' vy w → WSs X rest De ((σ.set i (some vx)).set j (some vy)) H')
    (hi : X.N[i]? = some x := by rfl) (hj : X.N[j]? = some y := by rfl) (hij : i ≠ j := by decide) (lx : X.env.scope.names.lookup x = some .local := by rfl) (ly : X.env.scope.names.lookup y = some .local := by rfl)
    (hw : swappedStores [.Tuple [.Name x px, .Name y py] kt pt] (.Tuple [a, b] k2 pt2) X.env = pure (some [x, y]) := by rfl) (hs : swapsWithSole [.Tuple [.Name x px, .Name y py] kt pt] (.Tuple [a, b] k2 pt2) pos.line X.env = pure false := by rfl)
    (h1 : starEach (a :: [b]) X.env = (false, eval a X.env) :: starEach [b] X.env := by rfl) (h2 : starEach (b :: []) X.env = (false, eval b X.env) :: starEach [] X.env := by rfl) :
    WSs X (.Assign [.Tuple [.Name x px, .Name y py] kt pt] (.Tuple [a, b] k2 pt2) pos :: rest) De σ H :=
  WSs.seq (WS.of (ps_par hc nd hi hj hij lx ly (pa_cons peS (pa_cons peS pa_nil h2) h1) hw hs) (ha S H (Ext.refl S) s _ fun v S2 H2 a2 ⟨u, hu, r2⟩ => hb S2 H2 a2.s a2.i _ fun v' S3 H3 a3 ⟨w, hw, r3⟩ =>
    ⟨v, v', rfl, q v v' u w S3 H3 (a2.trans a3) hu hw (rep_ext r2 a3.s) r3⟩))
end
end Tl
namespace Tl
open PySem PySem.Spec PyProof.Rows L2
/-! ### max, min of two, int of a bool -/
section
variable {X : Cx} {a b c e : Expr} {es : List Expr} {σ : L2.St} {S : Hp} {p pos : Pos}
/-- a built-in with two arguments -/
theorem ev_b2 {α β γ : Type} [Rep α] [Rep β] [Rep γ] {x : α} {y : β} {z : γ} {f : Str} {id : String} {r : List V → Hp → VK → Prop} (hc : CallR X (.builtin id) r) (ha : Ev X a σ S x) (hb : Ev X b σ S y)
    (hr : ∀ v u S2 H2, Ext S S2 → Sub S2 H2 → rep X.K X.mg S2 v x → rep X.K X.mg S2 u y → ∀ Q : VK, (∀ w S3 H3, At S2 H2 S3 H3 → rep X.K X.mg S3 w z → Q w H3) → r [v, u] H2 Q)
    (hm : X.mg f = none) (hv : bootBuiltins f = some (.builtin id)) (hg : Gl X f) (hn : f ≠ "__name__") (hdb : (f == ("__debug__" : Str)) = false)
    (he : starEach (a :: [b]) X.env = (false, eval a X.env) :: starEach [b] X.env) (he2 : starEach (b :: []) X.env = (false, eval b X.env) :: starEach [] X.env) (hpl : (backTo pos (starEach [b] X.env)).any (·.1) = false) : Ev X (.Call (.Name f p) [a, b] [] pos) σ S z := fun S1 H1 e1 s Q q =>
  WE.of (pe_callB hc hg hm hv (pa_cons peS (pa_cons peS pa_nil he2) he) hn hdb he hpl) (ha S1 H1 e1 s _ fun v S2 H2 a2 r2 => hb S2 H2 (e1.trans a2.s) a2.i _ fun u S3 H3 a3 r3 =>
    hr v u S3 H3 ((e1.trans a2.s).trans a3.s) a3.i (rep_ext r2 a3.s) r3 Q fun w S4 H4 a4 r4 => q w S4 H4 ((a2.trans a3).trans a4) r4)
theorem ev_max2 {i j : Int} (hc : X.calm = true) (hm : X.mg "max" = none) (ha : Ev X a σ S i) (hb : Ev X b σ S j) (hg : Gl X "max" := by rfl)
    (he : starEach (a :: [b]) X.env = (false, eval a X.env) :: starEach [b] X.env := by rfl) (he2 : starEach (b :: []) X.env = (false, eval b X.env) :: starEach [] X.env := by rfl) (hpl : (backTo pos (starEach [b] X.env)).any (·.1) = false := by rfl) :
    Ev X (.Call (.Name "max" p) [a, b] [] pos) σ S (max i j) :=
  ev_b2 (call_max2 hc) ha hb (fun v u S2 H2 _ s r2 r3 Q q => ⟨i, j, by rw [show v = .int i from r2, show u = .int j from r3], q _ S2 H2 (At.refl s) (by show V.int _ = V.int _; congr 1; split <;> omega)⟩) hm bt_max hg (by decide) (by decide) he he2 hpl
theorem ev_min2 {i j : Int} (hc : X.calm = true) (hm : X.mg "min" = none) (ha : Ev X a σ S i) (hb : Ev X b σ S j) (hg : Gl X "min" := by rfl)
    (he : starEach (a :: [b]) X.env = (false, eval a X.env) :: starEach [b] X.env := by rfl) (he2 : starEach (b :: []) X.env = (false, eval b X.env) :: starEach [] X.env := by rfl) (hpl : (backTo pos (starEach [b] X.env)).any (·.1) = false := by rfl) :
    Ev X (.Call (.Name "min" p) [a, b] [] pos) σ S (min i j) :=
  ev_b2 (call_min2 hc) ha hb (fun v u S2 H2 _ s r2 r3 Q q => ⟨i, j, by rw [show v = .int i from r2, show u = .int j from r3], q _ S2 H2 (At.refl s) (by show V.int _ = V.int _; congr 1; split <;> omega)⟩) hm bt_min hg (by decide) (by decide) he he2 hpl
theorem ev_intB {x : Bool} (hm : X.mg "int" = none) (ha : Ev X a σ S x) (hg : Gl X "int" := by rfl) (he : starEach (a :: []) X.env = (false, eval a X.env) :: starEach [] X.env := by rfl) (hpl : (backTo pos (starEach [] X.env)).any (·.1) = false := by rfl) :
    Ev X (.Call (.Name "int" p) [a] [] pos) σ S (if x = true then (1 : Int) else 0) :=
  ev_t1 call_int1 ha (fun v S2 H2 _ s r2 Q q => .inr ⟨x, by rw [show v = .bl x from r2], q _ S2 H2 (At.refl s) rfl⟩) hm bt_int hg (by decide) (by decide) he hpl
end
end Tl
namespace Tl
open PySem PySem.Spec PyProof.Rows L2
/-! ### own classes as types -/
def sevenT : List String := ["NoneType", "bool", "int", "str", "list", "tuple", "dict"]
structure ClsT (K : PySem.W.Frag) (C : Addr) : Prop where
  cl : Cls K C
  ha : PySem.W.findIn K (.ref C) "__class__" = some (some (.builtin "object.__class__"))
  hn : PySem.W.specialIn K (.builtin "object.__class__") "__get__" = some (some (.builtin "getset_descriptor.__get__"))
  htk : PySem.W.takesIn K (.builtin "object.__class__") = some true
  hm : PySem.W.mroIn K C (.type "object") = some true
  kit : ∀ t ∈ sevenT, PySem.W.kitOne K (.type t) (.ref C) = some false
  nf : ∀ t ∈ sevenT, PySem.W.notFirst K C (.type t) = true
def clsTB (x : Str) (K : PySem.W.Frag) : Bool := (He.Fa.cls x).ok K && (He.eqO (PySem.W.findIn K (.ref (He.ga K x)) "__class__") (some (some (.builtin "object.__class__"))) && (He.eqO (PySem.W.specialIn K (.builtin "object.__class__") "__get__") (some (some (.builtin "getset_descriptor.__get__"))) &&
  (PySem.W.takesIn K (.builtin "object.__class__") == some true && (PySem.W.mroIn K (He.ga K x) (.type "object") == some true && sevenT.all fun t => PySem.W.kitOne K (.type t) (.ref (He.ga K x)) == some false && PySem.W.notFirst K (He.ga K x) (.type t)))))
theorem clsTB_ok {x : Str} {K : PySem.W.Frag} (h : clsTB x K = true) : ClsT K (He.ga K x) := by
  obtain ⟨h1, h⟩ := He.ba h
  obtain ⟨h2, h⟩ := He.ba h
  obtain ⟨h3, h⟩ := He.ba h
  obtain ⟨h4, h⟩ := He.ba h
  obtain ⟨h5, h⟩ := He.ba h
  have h := List.all_eq_true.mp h
  exact ⟨He.cls_ok h1, He.eqO_ok h2, He.eqO_ok h3, beq_iff_eq.mp h4, beq_iff_eq.mp h5, fun t ht => beq_iff_eq.mp (He.ba (h t ht)).1, fun t ht => (He.ba (h t ht)).2⟩
def ownMB (x m : Str) (K : PySem.W.Frag) : Bool := He.eqO (PySem.W.findIn K (.ref (He.ga K x)) m) (some (some (.ref (He.ma K (He.ga K x) m)))) && PySem.W.isFn K (.ref (He.ma K (He.ga K x) m))
theorem ownMB_ok {x m : Str} {K : PySem.W.Frag} (h : ownMB x m K = true) : OwnM K (He.ga K x) m (He.ma K (He.ga K x) m) := ⟨He.eqO_ok (He.ba h).1, (He.ba h).2⟩
def ownNeB (x : Str) (K : PySem.W.Frag) : Bool := He.eqO (PySem.W.findIn K (.ref (He.ga K x)) "__ne__") (some (some (.builtin "object.__ne__"))) && PySem.W.mroIn K (He.ga K x) (.type "object") == some true
theorem ownNeB_ok {x : Str} {K : PySem.W.Frag} (h : ownNeB x K = true) : OwnNe K (He.ga K x) := ⟨He.eqO_ok (He.ba h).1, beq_iff_eq.mp (He.ba h).2⟩
theorem D.ty_mem (d : D) : d.ty ∈ sevenT := by cases d <;> simp [D.ty, sevenT]
/-- the objects of one class -/
class IsIns (α : Type) extends Rep α where
  cls : Str
  ins : ∀ {K mg S v x}, toRep.rep K mg S v x → ∃ a dx fs, v = .ref a ∧ S a = some (.ins (clsAt mg cls) dx fs)
/-- an object of this kind, or any plain value -/
instance {α β : Type} [Rep α] [Rep β] : Rep (α ⊕ β) where
  rep := fun K mg S v x => match x with
    | .inl y => rep K mg S v y
    | .inr y => rep K mg S v y
  ext := fun {K mg S S' v x} e h => by
    cases x with
    | inl y => exact rep_ext (x := y) h e
    | inr y => exact rep_ext (x := y) h e
theorem ins_tyx {α : Type} [IsIns α] {K : PySem.W.Frag} {mg : Str → Option Value} {S H : Hp} {v : V} {x : α} (h : rep K mg S v x) (s : Sub S H) (ct : ClsT K (clsAt mg (IsIns.cls α))) : TyX K H v (.ref (clsAt mg (IsIns.cls α))) := by
  obtain ⟨a, dx, fs, rfl, h2⟩ := IsIns.ins h
  exact .base (.ins (s.ins h2) ct.cl ct.ha ct.hn ct.htk ct.hm)
theorem kit_self {K : PySem.W.Frag} {C : Addr} : PySem.W.kitOne K (.ref C) (.ref C) = some true := by
  unfold PySem.W.kitOne
  rw [if_pos (by simp)]
theorem nf_self {K : PySem.W.Frag} {C : Addr} : PySem.W.notFirst K C (.ref C) = true := by
  unfold PySem.W.notFirst
  simp
/-- the class of a plain value, of an object -/
def isIn {α : Type} : α ⊕ D → Bool
  | .inl _ => true
  | .inr _ => false
theorem sum_ty {α : Type} [IsIns α] {K : PySem.W.Frag} {mg : Str → Option Value} {S H : Hp} {v : V} {x : α ⊕ D} (h : rep K mg S v x) (s : Sub S H) (ct : ClsT K (clsAt mg (IsIns.cls α))) :
    ∃ t, TyX K H v t ∧ PySem.W.kitOne K t (.ref (clsAt mg (IsIns.cls α))) = some (isIn x) ∧ PySem.W.notFirst K (clsAt mg (IsIns.cls α)) t = true := by
  cases x with
  | inl y => exact ⟨_, ins_tyx (x := y) h s ct, kit_self, nf_self⟩
  | inr d => exact ⟨_, D.tyx (mg := mg) (d := d) h s, ct.kit _ d.ty_mem, ct.nf _ d.ty_mem⟩
/-- a special method of the class x -/
structure Do (G : Gx) (c m : Str) (ps : List Str) (n : Nat) (sp : Sp) : Prop where
  ex : ∃ f, OwnM G.K (clsAt G.mg c) m f ∧ Fn G ps n sp f
section
variable {G : Gx} {X : Cx} {a b c e o : Expr} {es : List Expr} {σ : L2.St} {S : Hp} {p p2 pos apos : Pos} {x m f cn : Str} {ps : List Str} {n : Nat}
/-- isinstance(x, C) -/
theorem ev_isiC {α : Type} [IsIns α] {y : α ⊕ D} (ct : ClsT X.K (clsAt X.mg (IsIns.cls α))) (hmC : X.mg (IsIns.cls α) = some (.ref (clsAt X.mg (IsIns.cls α)))) (hm : X.mg "isinstance" = none) (he : Ev X e σ S y)
    (hx : cn = IsIns.cls α := by rfl) (hg : Gl X "isinstance" := by rfl) (hg2 : Gl X cn := by rfl) (hd : (cn == ("__debug__" : Str)) = false := by decide)
    (hst : starEach (e :: [.Name cn p2]) X.env = (false, eval e X.env) :: starEach [.Name cn p2] X.env := by rfl) (hst2 : starEach (.Name cn p2 :: []) X.env = (false, eval (.Name cn p2) X.env) :: starEach [] X.env := by rfl) (hpl : (backTo pos (starEach [.Name cn p2] X.env)).any (·.1) = false := by rfl) :
    Ev X (.Call (.Name "isinstance" p) [e, .Name cn p2] [] pos) σ S (isIn y) := fun S1 H1 e1 s Q q => by
  subst hx
  refine WE.of (pe_callB call_isi hg hm (by decide +kernel) (pa_cons peS (pa_cons (pe_glob (v := .ref (clsAt X.mg (IsIns.cls α))) hg2 hmC rfl hd) pa_nil hst2) hst) (by decide) (by decide) hst hpl) ?_
  refine he S1 H1 e1 s _ fun v S2 H2 a2 r2 => ?_
  obtain ⟨t, h1, h2, _⟩ := sum_ty r2 a2.i ct
  exact ⟨v, .ref _, t, .ref _, isIn y, rfl, .own _, h1, h2, q _ S2 H2 a2 rfl⟩
theorem ec_own {α : Type} [IsIns α] {y : α} {z : α ⊕ D} {pre : α × (α ⊕ D) × Unit → Prop} {g : α × (α ⊕ D) × Unit → Bool} {op : CmpOp} {neg : Bool} (on : On G X) (F : Do G (IsIns.cls α) "__eq__" ps n (spF G pre g)) (ct : ClsT X.K (clsAt X.mg (IsIns.cls α))) (ha : Ev X a σ S y) (hb : Ev X b σ S z) (hp : pre (y, z, ()))
    (ho : ∀ f sp, OwnM X.K (clsAt X.mg (IsIns.cls α)) "__eq__" f → FnR X.prog X.w X.K X.mg X.base (L2.CX X.prog X.w) n f sp → OpR X (compareOp op) (rOwn X.K (clsAt X.mg (IsIns.cls α)) sp E0 neg)) : EvC X op a b σ S (g (y, z, ()) != neg) := fun S1 H1 e1 s Q q => by
  obtain ⟨f, hf, F2⟩ := F.ex
  obtain ⟨fd, h1, h2⟩ := F2.fnok on
  rw [← on.K, ← on.mg] at hf
  refine WC.of (pc_of (ho f _ hf (FnOk.raw (dvs := []) h1 h2 .nil)) peS peS) ?_
  refine ha S1 H1 e1 s _ fun v S2 H2 a2 r2 => hb S2 H2 (e1.trans a2.s) a2.i _ fun u S3 H3 a3 r3 => ?_
  obtain ⟨t, t1, _, t2⟩ := sum_ty r3 a3.i ct
  obtain ⟨ad, dx, fs, ev, hS⟩ := IsIns.ins r2
  have r2' := rep_ext r2 a3.s
  have r3' := r3
  rw [on.K, on.mg] at r2' r3'
  refine ⟨ad, dx, fs, t, ev, a3.i.ins (a3.s _ _ hS), t1, t2, S3, (y, z, ()), a3.i, ⟨v, [u], rfl, r2', u, [], rfl, r3', rfl⟩, hp, fun w S4 H4 a4 r4 => ⟨g (y, z, ()), r4, q S4 H4 ((a2.trans a3).trans a4)⟩⟩
theorem ec_ownEq {α : Type} [IsIns α] {y : α} {z : α ⊕ D} {pre : α × (α ⊕ D) × Unit → Prop} {g : α × (α ⊕ D) × Unit → Bool} (on : On G X) (F : Do G (IsIns.cls α) "__eq__" ps n (spF G pre g)) (hr : Room n X.A) (ct : ClsT X.K (clsAt X.mg (IsIns.cls α))) (ha : Ev X a σ S y) (hb : Ev X b σ S z) (hp : pre (y, z, ())) : EvC X .Eq a b σ S (g (y, z, ())) := by
  have h := ec_own (op := .Eq) (neg := false) on F ct ha hb hp fun f sp o F => op_ownEq F hr passL o
  have e : (g (y, z, ()) != false) = g (y, z, ()) := by cases g (y, z, ()) <;> rfl
  rw [e] at h
  exact h
theorem ec_ownNe {α : Type} [IsIns α] {y : α} {z : α ⊕ D} {pre : α × (α ⊕ D) × Unit → Prop} {g : α × (α ⊕ D) × Unit → Bool} (on : On G X) (F : Do G (IsIns.cls α) "__eq__" ps n (spF G pre g)) (hr : Room (n + 1) X.A) (ct : ClsT X.K (clsAt X.mg (IsIns.cls α))) (ne : OwnNe X.K (clsAt X.mg (IsIns.cls α))) (ha : Ev X a σ S y) (hb : Ev X b σ S z) (hp : pre (y, z, ())) : EvC X .NotEq a b σ S (!g (y, z, ())) := by
  have h := ec_own (op := .NotEq) (neg := true) on F ct ha hb hp fun f sp o F => op_ownNe F hr passL o ne
  have e : (g (y, z, ()) != true) = !g (y, z, ()) := by cases g (y, z, ()) <;> rfl
  rw [e] at h
  exact h
/-- len of an object -/
theorem ev_lenO {α : Type} [IsIns α] {y : α} {pre : α × Unit → Prop} {g : α × Unit → Int} (on : On G X) (F : Do G (IsIns.cls α) "__len__" ps n (spF G pre g)) (hr : Room (n + 1) X.A) (hm : X.mg "len" = none) (ha : Ev X a σ S y) (hp : pre (y, ())) (h0 : 0 ≤ g (y, ())) (h1 : g (y, ()) < 2 ^ 63)
    (hg : Gl X "len" := by rfl) (he : starEach (a :: []) X.env = (false, eval a X.env) :: starEach [] X.env := by rfl) (hpl : (backTo pos (starEach [] X.env)).any (·.1) = false := by rfl) :
    Ev X (.Call (.Name "len" p) [a] [] pos) σ S (g (y, ())) := by
  obtain ⟨f, hf, F2⟩ := F.ex
  obtain ⟨fd, f1, f2⟩ := F2.fnok on
  rw [← on.K, ← on.mg] at hf
  refine ev_b1 (call_lenO (FnOk.raw (dvs := []) f1 f2 .nil) hr passL hf) ha (fun v S2 H2 _ s r2 Q q => ?_) hm bt_len hg (by decide) (by decide) he hpl
  obtain ⟨ad, dx, fs, ev, hS⟩ := IsIns.ins r2
  subst ev
  have r2' := r2
  rw [on.K, on.mg] at r2'
  exact ⟨ad, dx, fs, rfl, s.ins hS, S2, (y, ()), s, ⟨_, [], rfl, r2', rfl⟩, hp, fun w S3 H3 a3 r3 => ⟨g (y, ()), r3, h0, h1, q _ S3 H3 a3 rfl⟩⟩
end
end Tl
/-! ## the head: facts about what the top has left, as one Hook -/
namespace Tl
open PySem PySem.Spec PyProof.Rows L2
/-- one def: where it stands (by a look at the written part), its text, its defaults -/
structure DefE where
  adr : PySem.W.Frag → Addr
  name : Str
  qual : Str
  params : Arguments
  body : List Stmt
  scope : Scope
  dfl : List He.Dv := []
  kwd : List (Str × He.Dv) := []
def DefE.dvs (K : PySem.W.Frag) (d : DefE) : List V := d.dfl.map (He.Dv.v K)
def DefE.kws (K : PySem.W.Frag) (d : DefE) : List (Str × V) := d.kwd.map fun q => (q.1, q.2.v K)
def fnE (K : PySem.W.Frag) (a : Addr) : He.FnW := match K.lookup a with
  | some ⟨_, _, .func fd, _⟩ => some (fd.name, fd.qualname, fd.params, fd.body, fd.scope, fd.globals, fd.closure, fd.builtins)
  | _ => none
def DefE.val (d : DefE) : He.FnW := some (d.name, d.qual, d.params, .stmts d.body, d.scope, mainGlobals, [], builtinsNs)
def DefE.ok (K : PySem.W.Frag) (d : DefE) : Bool := PySem.W.keepIn K (.ref (d.adr K)) && (match K.lookup (d.adr K) with
  | some ⟨_, _, .func fd, _⟩ => PySem.W.codeIn K fd.code d.qual && (He.dflB K fd.defaults (d.dvs K) && He.kwdB K fd.kwdefaults (d.kws K))
  | _ => false)
theorem DefE.funD {K : PySem.W.Frag} {d : DefE} (e : fnE K (d.adr K) = d.val) (c : d.ok K = true) : ∃ fd, FunD K d.name d.qual d.params d.body d.scope (d.dvs K) (d.kws K) (d.adr K) fd := by
  obtain ⟨kp, c2⟩ := He.ba c
  unfold fnE at e
  cases q : K.lookup (d.adr K) with
  | none => rw [q] at c2; cases c2
  | some o =>
    obtain ⟨oc, od, dt, osl⟩ := o
    rw [q] at c2 e
    cases dt with
    | func fd =>
      obtain ⟨n1, n2, n3, n4, n5, n6, n7, n8, n9, n10, n11, n12, n13, n14, n15⟩ := fd
      have e2 : (some (n1, n2, n3, n4, n5, n6, n7, n15) : He.FnW) = some (d.name, d.qual, d.params, .stmts d.body, d.scope, mainGlobals, [], builtinsNs) := e
      simp only [Option.some.injEq, Prod.mk.injEq] at e2
      obtain ⟨h1, h2, h3, h4, h5, h6, h7, h8⟩ := e2
      subst h1 h2 h3 h4 h5 h6 h7 h8
      have c3 : (PySem.W.codeIn K n13 d.qual && (He.dflB K n8 (d.dvs K) && He.kwdB K n9 (d.kws K))) = true := c2
      obtain ⟨k1, k2⟩ := He.ba c3
      obtain ⟨k3, k4⟩ := He.ba k2
      exact ⟨_, ⟨oc, od, n8, n9, n10, n11, n12, n13, n14, osl, rfl, q, k1, He.dflB_ok k3, He.kwdB_ok k4⟩, kp⟩
    | _ => cases c2
abbrev Fact := PySem.W.Frag → Bool
abbrev AlE : Type := Bool × List He.FnW
def obsF (fa : List Fact) (fn : List DefE) (K : PySem.W.Frag) : AlE := ((fa.all fun f => f K) && fn.all fun d => d.ok K, fn.map fun d => fnE K (d.adr K))
def valF (fn : List DefE) : AlE := (true, fn.map DefE.val)
def SaysF (fa : List Fact) (fn : List DefE) (K : PySem.W.Frag) : Prop := obsF fa fn K = valF fn
def obsFG (n : Nat) (fa : List Fact) (fn : List DefE) (g : Addr → Option Obj) : AlE := obsF fa fn (He.frG g (cStatics :: He.asD g n))
def hookF (n : Nat) (fa : List Fact) (fn : List DefE) : PySem.W.Hook where
  α := AlE
  obs := fun s => obsFG n fa fn s.heap.get?
  val := fun _ => valF fn
  says := fun _ h => ∃ K : PySem.W.Frag, K.In h ∧ SaysF fa fn K
  of := fun _ _ e => ⟨_, He.frG_in, e⟩
  keeps := fun _ _ _ ⟨K, hK, c⟩ k => ⟨K, PySem.W.Frag.In.keeps hK k, c⟩
theorem obsFG_eq {n : Nat} {fa : List Fact} {fn : List DefE} {g : Addr → Option Obj} {s : Shared} (h : ∀ a, g a = s.heap.get? a) : obsFG n fa fn g = (hookF n fa fn).obs s := by
  have e : g = s.heap.get? := funext h
  rw [e] <;> rfl
section
variable {fa : List Fact} {fn : List DefE} {K : PySem.W.Frag}
theorem SaysF.fact (c : SaysF fa fn K) (i : Nat) {f : Fact} (h : fa[i]? = some f := by rfl) : f K = true := by
  have e1 : ((fa.all fun f => f K) && fn.all fun d => d.ok K) = true := congrArg (fun z : AlE => z.1) c
  exact List.all_eq_true.mp (He.ba e1).1 f (List.mem_of_getElem? h)
theorem SaysF.def_ (c : SaysF fa fn K) (i : Nat) {d : DefE} (h : fn[i]? = some d := by rfl) : ∃ fd, FunD K d.name d.qual d.params d.body d.scope (d.dvs K) (d.kws K) (d.adr K) fd := by
  have e1 : ((fa.all fun f => f K) && fn.all fun d => d.ok K) = true := congrArg (fun z : AlE => z.1) c
  have e2 : fn.map (fun d => fnE K (d.adr K)) = fn.map DefE.val := congrArg (fun z : AlE => z.2) c
  have hm := List.mem_of_getElem? h
  refine DefE.funD ?_ (List.all_eq_true.mp (He.ba e1).2 d hm)
  have h1 : (fn.map fun d => fnE K (d.adr K))[i]? = some (fnE K (d.adr K)) := by rw [List.getElem?_map, h]; rfl
  have h2 : (fn.map DefE.val)[i]? = some d.val := by rw [List.getElem?_map, h]; rfl
  rw [e2, h2] at h1
  exact (Option.some.inj h1).symm
end
end Tl
namespace Tl
open PySem PySem.Spec PyProof.Rows L2
/-- the first field of the record at p (a property's getter, a classmethod's def) -/
def recHead (K : PySem.W.Frag) (p : Addr) (kind : String) : Addr := match PySem.W.recIn K p kind with
  | some (.ref g :: _) => g
  | _ => 0
end Tl
namespace Tl
open PySem PySem.Spec PyProof.Rows L2
/-! ### fresh results; classes in slots; classmethods -/
/-- S' without what S knew and may change -/
def fre (S S' : Hp) : Hp := fun a => match S a with
  | none => S' a
  | some (.tup _) => S' a
  | some _ => none
theorem fre_ext {S S' : Hp} : Ext (fre S S') S' := fun a o e => by
  unfold fre at e
  split at e
  · exact e
  · exact e
  · cases e
theorem fre_new {S S' : Hp} {a : Addr} (h : S a = none) : fre S S' a = S' a := by unfold fre; rw [h]
theorem fre_tup {S S' : Hp} {a : Addr} {xs : List V} (x : Ext S S') (h : S' a = some (.tup xs)) : fre S S' a = some (.tup xs) := by
  cases e : S a with
  | none => rw [fre_new e]; exact h
  | some o =>
    have := x a o e
    rw [h] at this
    cases this
    unfold fre; rw [e]; exact h
theorem fre_mono {S T S' : Hp} (x : Ext S T) : Ext (fre T S') (fre S S') := fun a o e => by
  unfold fre at e ⊢
  cases q : S a with
  | none =>
    cases q2 : T a with
    | none => rw [q2] at e; exact e
    | some u => rw [q2] at e; cases u <;> first | exact e | cases e
  | some u =>
    rw [x a u q] at e
    exact e
theorem fre_grow {S S' S'' : Hp} (x : Ext S' S'') : Ext (fre S S') (fre S S'') := fun a o e => by
  unfold fre at e ⊢
  cases q : S a with
  | none => rw [q] at e; exact x a o e
  | some u => rw [q] at e; cases u <;> first | exact x a o e | cases e
/-- .. so what stood still may change again -/
theorem fre_but {S S' : Hp} {p : Addr} {xs : List V} : Ext (fre (upd S p (.lst xs)) S') (but S' p) := fun a o e => by
  by_cases h : a = p
  · subst h
    unfold fre at e
    rw [upd_same] at e
    cases e
  · rw [but_ne h]
    exact fre_ext a o e
/-- pairs of ints use tuples alone -/
theorem pair_fre {K : PySem.W.Frag} {mg : Str → Option Value} {S S' : Hp} {v : V} {x : Int × Int} (e : Ext S S') (h : rep K mg S' v x) : rep K mg (fre S S') v x := by
  obtain ⟨t, a, b, h1, h2, h3, h4⟩ := h
  exact ⟨t, a, b, h1, fre_tup e h2, h3, h4⟩
theorem pairs_fre {K : PySem.W.Frag} {mg : Str → Option Value} {S S' : Hp} (e : Ext S S') {vs : List V} {xs : List (Int × Int)} (h : Reps K mg S' vs xs) : Reps K mg (fre S S') vs xs := by
  induction h with
  | nil => exact .nil
  | cons h _ ih => exact .cons (pair_fre e h) ih
/-- an __init__'s promise: what it makes shares with its arguments nothing that may change -/
def spIF {α β : Type} [Args α] [Rep β] (G : Gx) (c : Str) (pre : α → Prop) (f : α → Except Exn β) : Sp := fun vs H Q E => ∃ S x dx us y, vs = .ref x :: us ∧ Sub S H ∧ S x = none ∧ H x = some (.ins (clsAt G.mg c) dx []) ∧ Args.args G.K G.mg S us y ∧ pre y ∧
  (∀ z, f y = .ok z → ∀ S' H', AtX x S H S' H' → rep G.K G.mg (fre S S') (.ref x) z → Q .non H') ∧ ∀ ex, f y = .error ex → ∀ cls d S' H', AtX x S H S' H' → repX G.mg S' ex cls d → E cls d H'
theorem spIF_len {α β : Type} [Args α] [Rep β] {G : Gx} {c : Str} {pre : α → Prop} {f : α → Except Exn β} {ps : List Str} (h : ps.length = Args.len α + 1) : ∀ vs H Q E, spIF G c pre f vs H Q E → vs.length = ps.length := fun _ _ _ _ ⟨_, _, _, _, _, h0, _, _, _, h1, _⟩ => by
  rw [h0, h, List.length_cons, Args.ok h1]
theorem Dc.weak {α β : Type} [Args α] [Rep β] {G : Gx} {c : Str} {ps : List Str} {n : Nat} {pre : α → Prop} {f : α → Except Exn β} (d : Dc G c ps n (spIF G c pre f)) : Dc G c ps n (spI G c pre f) := by
  obtain ⟨hm, cl, g, mk, ⟨⟨fd, F, B⟩, kp⟩⟩ := d
  refine ⟨hm, cl, g, mk, ⟨⟨fd, F.imp fun vs H Q E h => ?_, B⟩, kp⟩⟩
  obtain ⟨S, x, dx, us, y, h0, h1, h2, h3, h4, h5, h6, h7⟩ := h
  exact ⟨S, x, dx, us, y, h0, h1, h2, h3, h4, h5, fun z hz S' H' a r => h6 z hz S' H' a (rep_ext r fre_ext), h7⟩
/-- the class of the name c, as a value -/
structure ClsA (c : Str) where
instance {c : Str} : Rep (ClsA c) where
  rep := fun _ mg _ v _ => v = .ref (clsAt mg c)
  ext := fun _ h => h
/-- a classmethod -/
structure Dk (G : Gx) (c m : Str) (ps : List Str) (n : Nat) (sp : Sp) : Prop where
  mg : G.mg c = some (.ref (clsAt G.mg c))
  ex : ∃ p g, ClX.CRead G.K (clsAt G.mg c) (.type "type") ∧ ClX.CMet G.K (clsAt G.mg c) (.type "type") m p g ∧ Fn G ps n sp g
def cmB (x m : Str) (K : PySem.W.Frag) : Bool := PySem.W.readsIn K (He.ga K x) (.type "type") && (He.eqO (PySem.W.specialIn K (.ref (He.ga K x)) "__getattribute__") (some (some (.builtin "type.__getattribute__"))) &&
  ((match PySem.W.findCls K (.ref (He.ga K x)) (.type "type") m with
    | some (.get (.builtin n) (.ref p) .none (.ref C)) => n == "classmethod.__get__" && (p == He.ma K (He.ga K x) m && C == He.ga K x)
    | _ => false) && ((match PySem.W.recIn K (He.ma K (He.ga K x) m) "classmethod" with
    | some (.ref g :: _) => g == recHead K (He.ma K (He.ga K x) m) "classmethod"
    | _ => false) && PySem.W.fnIn K (recHead K (He.ma K (He.ga K x) m) "classmethod"))))
theorem cmB_ok {x m : Str} {K : PySem.W.Frag} (h : cmB x m K = true) : ClX.CRead K (He.ga K x) (.type "type") ∧ ClX.CMet K (He.ga K x) (.type "type") m (He.ma K (He.ga K x) m) (recHead K (He.ma K (He.ga K x) m) "classmethod") := by
  obtain ⟨h1, h⟩ := He.ba h
  obtain ⟨h2, h⟩ := He.ba h
  obtain ⟨h3, h⟩ := He.ba h
  obtain ⟨h4, h5⟩ := He.ba h
  refine ⟨⟨h1, He.eqO_ok h2⟩, ⟨?_, ?_, h5⟩⟩
  · split at h3
    · rename_i n p C e
      obtain ⟨e1, e2⟩ := He.ba h3
      obtain ⟨e2, e3⟩ := He.ba e2
      rw [e, beq_iff_eq.mp e1, beq_iff_eq.mp e2, beq_iff_eq.mp e3]
    · cases h3
  · split at h4
    · rename_i g r e
      rw [e, beq_iff_eq.mp h4]
      exact ⟨r, rfl⟩
    · cases h4
theorem pe_makeL {X : Cx} {CX : CXT} {k i : Nat} {f C : Addr} {fd : FuncData} {ps : List Str} {sp : Sp} {dvs : List V} {ds : List Value} {E : XK} {x : Str} {p pos : Pos} {e : Expr} {es : List Expr} {t : TA} (M : Mk X.K C f) (F : FnOk X.prog X.w X.K X.mg X.base CX k f fd ps sp) (hr : Room (k + 1) X.A) (hN : X.N[i]? = some x) (hv : Vis X.env.scope x) (hb : Binds X.K fd ps ds) (hd : Vals dvs ds) (hx : Passes CX X E)
    (ha : PA X (e :: es) t) (hdb : (x == ("__debug__" : Str)) = false) (hcd : (x == ("__classdict__" : Str)) = false) (he : starEach (e :: es) X.env = (false, eval e X.env) :: starEach es X.env) (hpl : (backTo pos (starEach es X.env)).any (·.1) = false) :
    PE X (.Call (.Name x p) (e :: es) [] pos) (fun σ H Q => σ[i]? = some (some (.ref C)) ∧ tMake C sp dvs E t σ H Q) := by
  refine ⟨fun pins s σ H Q I h => ?_⟩
  obtain ⟨hs, h⟩ := h
  refine wpAny_Call_Name_kw (thn ((pe_var (pos := p) hN hv hdb hcd).run pins s σ H (fun v H1 => v = .ref C ∧ H1 = H) I ⟨.ref C, hs, rfl, rfl⟩) fun u s1 ⟨v, H1, I1, r1, q1⟩ => ?_)
  obtain ⟨rfl, rfl⟩ := q1
  cases r1
  refine PySem.W.callWith_K (h₀ := X.base) I.ok.mod.kin M.kp (thn (ha.run pos pins s1 σ _ _ I1 h) fun us s2 ⟨vs, H2, I2, r, q⟩ => ⟨I2.kIn, ?_⟩) he hpl
  exact run_make M F hr hb hd hx I2 r q
section
variable {G : Gx} {X : Cx} {e o : Expr} {es : List Expr} {σ : L2.St} {S : Hp} {p pos apos : Pos} {x m c : Str} {ps : List Str} {n : Nat} {W : WX}
/-- C(e, ..): what is new shares nothing with what may change -/
theorem er_makeF {α β : Type} [Args α] [Rep β] {pre : α → Prop} {f : α → Except Exn β} {y : α} {z : β} (on : On G X) (F : Dc G c ps n (spIF G c pre f)) (hr : Room (n + 1) X.A) (ha : EvAs X (e :: es) σ S y) (hp : pre y) (hz : f y = .ok z) (hg : Gl X c := by rfl)
    (hdb : (c == ("__debug__" : Str)) = false := by decide) (he : starEach (e :: es) X.env = (false, eval e X.env) :: starEach es X.env := by rfl) (hpl : (backTo pos (starEach es X.env)).any (·.1) = false := by rfl) : EvR X (.Call (.Name c p) (e :: es) [] pos) σ S (fun v S' => rep X.K X.mg (fre S S') v z) := fun S1 H1 e1 s Q q => by
  obtain ⟨fa, hm, F2⟩ := F.ex
  obtain ⟨fd, h1, h2⟩ := F2.fnok on
  rw [← on.K, ← on.mg] at hm
  refine WE.of (pe_make (dvs := []) (ds := []) (E := E0) hm h1 hr hg (by rw [on.mg]; exact F.mg) h2 .nil passL paS hdb he hpl) ?_
  refine ha S1 H1 e1 s _ fun vs S2 H2 a2 r2 x dx hx hd ne => ?_
  rw [List.append_nil]
  rw [on.K, on.mg] at r2
  refine ⟨S2, x, dx, vs, y, rfl, make_sub a2.i hx hd, a2.i.out hx, by rw [on.mg]; exact upd_same, r2, hp, (fun z' hz' S3 H3 a3 r3 => ⟨rfl, q _ S3 H3 (a2.trans (make_at a2.i hx hd ne a3)) ?_⟩), fun ex hx => by rw [hz] at hx; cases hx⟩
  rw [hz] at hz'
  cases hz'
  rw [on.K, on.mg]
  exact rep_ext r3 (fre_mono (e1.trans a2.s))
/-- cls(e, ..), cls in a slot -/
theorem ev_makeL {α β : Type} [Args α] [Rep β] {pre : α → Prop} {f : α → Except Exn β} {y : α} {z : β} (i : Nat) (on : On G X) (F : Dc G c ps n (spI G c pre f)) (hr : Room (n + 1) X.A) (hs : σ[i]? = some (some (.ref (clsAt X.mg c)))) (ha : EvAs X (e :: es) σ S y) (hp : pre y) (hz : f y = .ok z) (hN : X.N[i]? = some x := by rfl) (hv : Vis X.env.scope x := by first | exact Or.inl rfl | exact Or.inr (Or.inl rfl))
    (hdb : (x == ("__debug__" : Str)) = false := by decide) (hcd : (x == ("__classdict__" : Str)) = false := by decide) (he : starEach (e :: es) X.env = (false, eval e X.env) :: starEach es X.env := by rfl) (hpl : (backTo pos (starEach es X.env)).any (·.1) = false := by rfl) : Ev X (.Call (.Name x p) (e :: es) [] pos) σ S z := fun S1 H1 e1 s Q q => by
  obtain ⟨fa, hm, F2⟩ := F.ex
  obtain ⟨fd, h1, h2⟩ := F2.fnok on
  rw [← on.K, ← on.mg] at hm
  refine WE.of (pe_makeL (dvs := []) (ds := []) (E := E0) hm h1 hr hN hv h2 .nil passL paS hdb hcd he hpl) ⟨hs, ?_⟩
  refine ha S1 H1 e1 s _ fun vs S2 H2 a2 r2 x dx hx hd ne => ?_
  rw [List.append_nil]
  rw [on.K, on.mg] at r2
  refine ⟨S2, x, dx, vs, y, rfl, make_sub a2.i hx hd, a2.i.out hx, by rw [on.mg]; exact upd_same, r2, hp, (fun z' hz' S3 H3 a3 r3 => ⟨rfl, q _ S3 H3 (a2.trans (make_at a2.i hx hd ne a3)) ?_⟩), fun ex hx => by rw [hz] at hx; cases hx⟩
  rw [hz] at hz'
  cases hz'
  rw [on.K, on.mg]; exact r3
/-- C.m(e, ..): it gives a value, it raises -/
theorem ev_cmX {α β : Type} [Args α] [Rep β] {pre : ClsA c × α → Prop} {f : ClsA c × α → Except Exn β} {y : α} {z : β} {pl : Sem Bool} (on : On G X) (F : Dk G c m ps n (spX G pre f)) (hr : Room n X.A) (ha : EvAs X (e :: es) σ S y) (hp : pre (⟨⟩, y)) (hz : f (⟨⟩, y) = .ok z) (hg : Gl X c := by rfl)
    (hdb : (c == ("__debug__" : Str)) = false := by decide) (he : starEach (e :: es) X.env = (false, eval e X.env) :: starEach es X.env := by rfl) (hpl : (backTo pos (starEach es X.env)).any (·.1) = false := by rfl)
    (ht : eval (.Call (.Attribute (.Name c p) m apos) (e :: es) [] pos) X.env = (do
      let ov ← eval (.Name c p) X.env
      standAt apos.atName
      let (f, first) ← holding [ov] (getMethod ov m pl)
      callWith pos f first (backTo pos (starEach (e :: es) X.env)) (backToKw pos (keywordEach [] X.env))) := by rfl) : Ev X (.Call (.Attribute (.Name c p) m apos) (e :: es) [] pos) σ S z := fun S1 H1 e1 s Q q => by
  obtain ⟨pp, g, cr, cm, F2⟩ := F.ex
  obtain ⟨fd, h1, h2⟩ := F2.fnok on
  rw [← on.K, ← on.mg] at cr cm
  refine WE.of (ClX.pe_cmeth (E := E0) (pe_glob (v := .ref (clsAt X.mg c)) hg (by rw [on.mg]; exact F.mg) rfl hdb) cr cm (FnOk.raw (dvs := []) h1 h2 .nil) hr passL paS he hpl ht) ⟨rfl, ?_⟩
  refine ha S1 H1 e1 s _ fun vs S2 H2 a2 r2 => ?_
  rw [on.K, on.mg] at r2
  refine ⟨S2, (⟨⟩, y), a2.i, ⟨_, vs, by rw [List.append_nil], by rw [on.mg]; rfl, r2⟩, hp, fun y' hy w S3 H3 a3 r3 => q w S3 H3 (a2.trans a3) ?_, fun ex hx => by rw [hz] at hx; cases hx⟩
  rw [hz] at hy
  cases hy
  rw [on.K, on.mg]; exact r3
theorem ee_cmX {α β : Type} [Args α] [Rep β] {pre : ClsA c × α → Prop} {f : ClsA c × α → Except Exn β} {y : α} {ex : Exn} {pl : Sem Bool} (on : On G X) (tk : Takes X W) (F : Dk G c m ps n (spX G pre f)) (hr : Room n X.A) (ha : EvAs X (e :: es) σ S y) (hp : pre (⟨⟩, y)) (hz : f (⟨⟩, y) = .error ex) (hg : Gl X c := by rfl)
    (hdb : (c == ("__debug__" : Str)) = false := by decide) (he : starEach (e :: es) X.env = (false, eval e X.env) :: starEach es X.env := by rfl) (hpl : (backTo pos (starEach es X.env)).any (·.1) = false := by rfl)
    (ht : eval (.Call (.Attribute (.Name c p) m apos) (e :: es) [] pos) X.env = (do
      let ov ← eval (.Name c p) X.env
      standAt apos.atName
      let (f, first) ← holding [ov] (getMethod ov m pl)
      callWith pos f first (backTo pos (starEach (e :: es) X.env)) (backToKw pos (keywordEach [] X.env))) := by rfl) : EvE X (.Call (.Attribute (.Name c p) m apos) (e :: es) [] pos) σ S W ex := fun S1 H1 e1 s k Q => by
  obtain ⟨pp, g, cr, cm, F2⟩ := F.ex
  obtain ⟨fd, h1, h2⟩ := F2.fnok on
  rw [← on.K, ← on.mg] at cr cm
  refine WE.of (ClX.pe_cmeth (E := EW X W) (pe_glob (v := .ref (clsAt X.mg c)) hg (by rw [on.mg]; exact F.mg) rfl hdb) cr cm (FnOk.raw (dvs := []) h1 h2 .nil) hr (passW tk) paS he hpl ht) ⟨rfl, ?_⟩
  refine ha S1 H1 e1 s _ fun vs S2 H2 a2 r2 => ?_
  rw [on.K, on.mg] at r2
  refine ⟨S2, (⟨⟩, y), a2.i, ⟨_, vs, by rw [List.append_nil], by rw [on.mg]; rfl, r2⟩, hp, (fun y' hy => by rw [hz] at hy; cases hy), fun ex' hx cls d S3 H3 a3 r3 => k cls d S3 H3 (a2.trans a3) ?_⟩
  rw [hz] at hx
  cases hx
  rw [on.mg]; exact r3
/-- a new list, told to be new -/
theorem EvN.fresh {α : Type} [Rep α] {xs : List α} (h : EvN X e σ S xs) : EvR X e σ S (fun v S' => ∃ l, v = .ref l ∧ S l = none ∧ ∃ ys, S' l = some (.lst ys) ∧ Reps X.K X.mg S' ys xs ∧ xs.length ≤ sizeLine) := fun S1 H1 e1 s Q q => h S1 H1 e1 s Q fun l S2 H2 ys a2 n1 n2 h2 r2 z => q _ _ H2 (a2.settle n1 h2 n2)
  ⟨l, rfl, (by
    cases w : S l with
    | none => rfl
    | some o => rw [a2.s _ _ (e1 _ _ w)] at n2; cases n2), ys, upd_same, r2.ext (ext_new n2), z⟩
theorem EvM.fresh {κ α : Type} [TKey κ] [Rep α] {xs : List (κ × α)} (h : EvM X e σ S xs) : EvR X e σ S (fun v S' => ∃ d, v = .ref d ∧ S d = none ∧ ∃ ys, S' d = some (.dT ys) ∧ DReps X.K X.mg S' ys xs ∧ xs.length ≤ sizeLine) := fun S1 H1 e1 s Q q => h S1 H1 e1 s Q fun l S2 H2 ys a2 n1 n2 h2 r2 z => q _ _ H2 (a2.settle n1 h2 n2)
  ⟨l, rfl, (by
    cases w : S l with
    | none => rfl
    | some o => rw [a2.s _ _ (e1 _ _ w)] at n2; cases n2), ys, upd_same, r2.ext (ext_new n2), z⟩
end
end Tl
namespace Tl
open PySem PySem.Spec PyProof.Rows L2
/-! ### walking what some value of a kind gives; loops; try -/
def EvIP {α : Type} [Rep α] (X : Cx) (tg iter : Expr) (σ : L2.St) (S : Hp) (φ : List α → Prop) : Prop := ∀ S1 H1, Ext S S1 → Sub S1 H1 → ∀ R : It → Hp → Prop,
  (∀ J S2 H2 xs, At S1 H1 S2 H2 → φ xs → Yields X.K X.mg J S2 H2 xs → R J H2) → WI X tg iter σ H1 R
def EvNP {α : Type} [Rep α] (X : Cx) (e : Expr) (σ : L2.St) (S : Hp) (φ : List α → Prop) : Prop := ∀ S1 H1, Ext S S1 → Sub S1 H1 → ∀ Q : VK, (∀ l S2 H2 ys xs, At S1 H1 S2 H2 → H1 l = none → S2 l = none → H2 l = some (.lst ys) → Reps X.K X.mg S2 ys xs → φ xs → xs.length ≤ sizeLine → Q (.ref l) H2) → WE X e σ H1 Q
section
variable {X : Cx} {tg iter elt e : Expr} {σ : L2.St} {S : Hp} {scope : Scope} {pos : Pos}
theorem EvNP.p {α : Type} [Rep α] {φ : List α → Prop} (h : EvNP X e σ S φ) : EvP X e σ S φ := fun S1 H1 e1 s Q q => h S1 H1 e1 s Q fun l S2 H2 ys xs a2 n1 n2 h2 r2 f z => q _ _ H2 (a2.settle n1 h2 n2) ⟨xs, f, l, ys, rfl, upd_same, r2.ext (ext_new n2), z⟩
theorem EvI.p {α : Type} [Rep α] {xs : List α} (h : EvI LT X tg iter σ S xs) : EvIP X tg iter σ S (fun ys => ys = xs) := fun S1 H1 e1 s R q => h S1 H1 e1 s trivial R fun J S2 H2 a2 Y => q J S2 H2 xs a2 rfl Y
theorem eip_rng1 {ψ : Int → Prop} (hm : X.mg "range" = none) {p pos : Pos} {a : Expr} (ha : EvP X a σ S ψ) (hb : ∀ n, ψ n → n < 2 ^ 62 ∧ -(2 ^ 62) ≤ n) (hg : Gl X "range" := by rfl)
    (hs : starEach [a] X.env = [(false, eval a X.env)] := by rfl) (hs' : starEach (a :: []) X.env = (false, eval a X.env) :: starEach [] X.env := by rfl) : EvIP X tg (.Call (.Name "range" p) [a] [] pos) σ S (fun xs : List Int => ∃ n, ψ n ∧ xs = (List.range n.toNat).map fun (k : Nat) => (k : Int)) := fun S1 H1 e1 s R q =>
  WI.of (pi_range1 hg hm (pa_cons peS pa_nil hs') hs) (ha S1 H1 e1 s _ fun v S2 H2 a2 ⟨n, hn, r2⟩ => by
    refine ⟨n, by rw [show v = .int n from r2], (hb n hn).2, (hb n hn).1, q _ S2 H2 _ a2 ⟨n, hn, rfl⟩ fun i S' H _ bi _ => ⟨fun x hx => ?_, fun hl => ?_⟩⟩
    · have hi : i < n.toNat := by
        have := (List.getElem?_eq_some_iff.mp hx).1
        simpa using this
      have ex : x = (i : Int) := by
        rw [List.getElem?_map, List.getElem?_range hi] at hx
        exact (Option.some.inj hx).symm
      refine ⟨hi, fun w H' hy => ?_⟩
      obtain ⟨eH, ew⟩ := hy
      rw [eH]
      exact ⟨S', At.refl bi, by show w = .int x; rw [ew, ex]; simp⟩
    · show n.toNat ≤ i
      simpa using hl)
/-- [e for x in xs], where e gives some value of a kind: a new list -/
theorem enp_lc {α β : Type} [Rep α] [Rep β] {φ : List α → Prop} {R : α → β → Prop} (i : Nat) {x : Str} {tpos : Pos} (hc : X.calm = true) (nd : X.N.Nodup) (hi : EvIP X (.Name x tpos) iter σ S φ) (hl : ∀ xs, φ xs → xs.length ≤ sizeLine)
    (he : ∀ x v S', Ext S S' → rep X.K X.mg S' v x → Blk X scope fun Y => EvP Y elt ((wipe σ [i]).set i (some v)) S' (R x))
    (hN : X.N[i]? = some x := by rfl) (ok : BlkOk X.N X.env.scope scope [(x, i)]) (hx : scope.names.lookup x = some .local := by rfl)
    (hs : ∀ x, foldedSetIterable iter X.env x = pure x := by intro _; rfl) : EvNP X (.ListComp elt [⟨.Name x tpos, iter, [], 0⟩] scope pos) σ S (fun zs : List β => ∃ xs, φ xs ∧ zs.length = xs.length ∧ ∀ z ∈ zs, ∃ x ∈ xs, R x z) := fun S1 H1 e1 s Q q => by
  have te : ∃ te : TE, (Blk X scope fun Y => PE Y elt te) ∧ ∀ x v S1, Ext S S1 → rep X.K X.mg S1 v x → ∀ H1, Sub S1 H1 → ∀ Q : VK, (∀ u S2 H2, At S1 H1 S2 H2 → (∃ z, R x z ∧ rep X.K X.mg S2 u z) → Q u H2) → te ((wipe σ [i]).set i (some v)) H1 Q := by
    refine ⟨fun σ' H Q => ∃ S1 x v, Ext S S1 ∧ rep X.K X.mg S1 v x ∧ σ' = (wipe σ [i]).set i (some v) ∧ Sub S1 H ∧ ∀ u S2 H2, At S1 H S2 H2 → (∃ z, R x z ∧ rep X.K X.mg S2 u z) → Q u H2, fun s H C cl fp => ⟨fun pins s' σ' H' Q I hh => ?_⟩, fun x v S1 ex rv H1 s1 Q q => ⟨S1, x, v, ex, rv, rfl, s1, q⟩⟩
    obtain ⟨S1', x', v, ex, rv, rfl, sb, k⟩ := hh
    exact he x' v S1' ex rv s H C cl fp S1' H' (Ext.refl _) sb Q k pins s' I
  obtain ⟨te, pe, ke⟩ := te
  refine WE.of (pe_lc (own := [(x, i)]) (g := gName i) (tt := tYes) hc nd piS ok (blk_name nd hN hx) (fun _ _ _ _ _ => pts_nil) pe hs) (hi S1 H1 e1 s _ fun J S2 H2 xs a2 hf Y D hD => ?_)
  let Pv : Nat → Hp → Prop := fun k H => k ≤ xs.length ∧ ∃ S' acc zs, At S2 H2 S' H ∧ S' D = none ∧ H D = some (.lst acc) ∧ Reps X.K X.mg S' acc zs ∧ zs.length = k ∧ ∀ z ∈ zs, ∃ x ∈ xs, R x z
  refine ⟨fun k m H => m = xs.length - k ∧ Pv k H, ⟨xs.length, by simp, Nat.zero_le _, S2, [], [], At.apart a2.i hD, a2.i.out hD, upd_same, Reps.nil, rfl, fun z hz => by cases hz⟩, ?_⟩
  rintro k m H ⟨rfl, hik, S', acc, zs, b, hSD, hHD, racc, hzl, hzs⟩
  by_cases hlt : k < xs.length
  · refine .inr ?_
    have hxk : xs[k]? = some xs[k] := List.getElem?_eq_getElem hlt
    have mem : xs[k] ∈ xs := List.getElem_mem hlt
    obtain ⟨go, yl⟩ := (Y k S' H b.s b.i b.z).1 _ hxk
    refine ⟨go, Pv (k + 1), fun H' p' => ⟨xs.length - (k + 1), by omega, rfl, p'⟩, fun v H' hy' => ?_⟩
    obtain ⟨S3, a3, r3⟩ := yl v H' hy'
    have e3 : Ext S S3 := ((e1.trans a2.s).trans b.s).trans a3.s
    refine ⟨by show wipe ((wipe σ [i]).set i (some v)) [i] = wipe σ [i]; rw [wipe_set List.mem_cons_self]; exact wipe_wipe fun v hv => hv, ?_⟩
    show te ((wipe σ [i]).set i (some v)) H' _
    refine ke xs[k] v S3 e3 r3 H' a3.i _ fun u S4 H4 a4 ⟨z, hz, rz⟩ => ?_
    have o4 : S4 D = none := (a3.trans a4).out hSD hHD
    have h4 : H4 D = some (.lst acc) := (a3.trans a4).hown hHD hSD
    refine ⟨acc, h4, ?_, hlt, S4, acc ++ [u], zs ++ [z], ((b.trans a3).trans a4).put hD o4, o4, upd_same, (racc.ext (a3.trans a4).s).snoc rz, by rw [List.length_append, hzl]; rfl, fun z' hz' => ?_⟩
    · have := hl xs hf
      rw [racc.len, hzl]; omega
    · rcases List.mem_append.mp hz' with w | w
      · exact hzs z' w
      · have : z' = z := by simpa using w
        subst this
        exact ⟨_, mem, hz⟩
  · have ei : k = xs.length := by omega
    refine .inl ⟨(Y _ S' H b.s b.i b.z).2 (by omega), ?_⟩
    exact q D S' H acc zs (a2.trans b) (a2.non hD) hSD hHD racc ⟨xs, hf, by rw [hzl, ei], hzs⟩ (by rw [hzl, ei]; exact hl xs hf)
/-- [e for x, y in xs if c] -/
theorem ev_lcPT {α β γ : Type} [Rep α] [Rep β] [Rep γ] {xs : List (α × β)} {f : α × β → γ} {p : α × β → Bool} (i j : Nat) {x y : Str} {xp yp tp : Pos} {k : Nat} {c : Expr} (hc : X.calm = true) (nd : X.N.Nodup) (hi : EvI LT X (.Tuple [.Name x xp, .Name y yp] k tp) iter σ S xs) (hl : xs.length ≤ sizeLine)
    (ht : ∀ q v w S', q ∈ xs → Ext S S' → rep X.K X.mg S' v q.1 → rep X.K X.mg S' w q.2 → Blk X scope fun Y => EvB Y c (((wipe σ [i, j]).set i (some v)).set j (some w)) S' (p q))
    (he : ∀ q v w S', q ∈ xs → p q = true → Ext S S' → rep X.K X.mg S' v q.1 → rep X.K X.mg S' w q.2 → Blk X scope fun Y => Ev Y elt (((wipe σ [i, j]).set i (some v)).set j (some w)) S' (f q))
    (ok : BlkOk X.N X.env.scope scope [(x, i), (y, j)]) (hN : X.N[i]? = some x := by rfl) (hM : X.N[j]? = some y := by rfl) (hx : scope.names.lookup x = some .local := by rfl) (hy : scope.names.lookup y = some .local := by rfl)
    (h2 : Blk X scope fun Y => (assignEach [.Name x xp, .Name y yp] Y.env).length = 2 := by intro _ _ _ _ _; rfl) (h3 : Blk X scope fun Y => (assignEach [.Name x xp, .Name y yp] Y.env).findIdx? (·.1) = none := by intro _ _ _ _ _; rfl)
    (hs : ∀ x, foldedSetIterable iter X.env x = pure x := by intro _; rfl) : Ev X (.ListComp elt [⟨.Tuple [.Name x xp, .Name y yp] k tp, iter, [c], 0⟩] scope pos) σ S ((xs.filter p).map f) := fun S1 H1 e1 s Q q => by
  refine lc_at (L := LT) (p := p) (f := f) (g := gTup X.K 2 (gCons (gName i) (gCons (gName j) gNil))) (own := [(x, i), (y, j)]) (Gd := fun S' x σ' => ∃ v w, rep X.K X.mg S' v x.1 ∧ rep X.K X.mg S' w x.2 ∧ σ' = ((wipe σ [i, j]).set i (some v)).set j (some w)) hc nd ok hi hl
    (fun s H C cl fp => pg_tup (X := X.blk s H scope (compEnvC scope cl C X.env) fp) hc (pgs_cons (X := X.blk s H scope (compEnvC scope cl C X.env) fp) (blk_name nd hN hx s H C cl fp) (pgs_cons (X := X.blk s H scope (compEnvC scope cl C X.env) fp) (blk_name nd hM hy s H C cl fp) pgs_nil)) (h2 s H C cl fp) (h3 s H C cl fp))
    (fun S' v x H Q _ _ r sb k => ?_)
    ⟨fun σ' H Q => ∃ S1 x v w, x ∈ xs ∧ Ext S S1 ∧ rep X.K X.mg S1 v x.1 ∧ rep X.K X.mg S1 w x.2 ∧ σ' = ((wipe σ [i, j]).set i (some v)).set j (some w) ∧ Sub S1 H ∧ ∀ S2 H2, At S1 H S2 H2 → Q (p x) H2, fun s H C cl fp => pts_one ⟨fun pins s' σ' H' Q I hh => ?_⟩, fun x S1 σ' hx ex ⟨v, w, rv, rw', ev⟩ H1 s1 Q q => ⟨S1, x, v, w, hx, ex, rv, rw', ev, s1, q⟩⟩
    ⟨fun σ' H Q => ∃ S1 x v w, x ∈ xs ∧ p x = true ∧ Ext S S1 ∧ rep X.K X.mg S1 v x.1 ∧ rep X.K X.mg S1 w x.2 ∧ σ' = ((wipe σ [i, j]).set i (some v)).set j (some w) ∧ Sub S1 H ∧ ∀ v S2 H2, At S1 H S2 H2 → rep X.K X.mg S2 v (f x) → Q v H2, fun s H C cl fp => ⟨fun pins s' σ' H' Q I hh => ?_⟩, fun x S1 σ' hx hp ex ⟨v, w, rv, rw', ev⟩ H1 s1 Q q => ⟨S1, x, v, w, hx, hp, ex, rv, rw', ev, s1, q⟩⟩
    (fun e ⟨v, w, r, r', z⟩ => ⟨v, w, rep_ext r e, rep_ext r' e, z⟩) hs S1 H1 e1 s trivial Q q
  · obtain ⟨t, v1, v2, h1, h2, h3, h4⟩ := r
    refine ⟨t, _, h1, sb.tup h2, rfl, v1, _, rfl, v2, _, rfl, rfl, k _ ?_ ⟨v1, v2, h3, h4, rfl⟩⟩
    show wipe (((wipe σ [i, j]).set i (some v1)).set j (some v2)) [i, j] = wipe σ [i, j]
    rw [wipe_set (List.mem_cons_of_mem _ List.mem_cons_self), wipe_set List.mem_cons_self]
    exact wipe_wipe fun v hv => hv
  · obtain ⟨S1', x', v, w, hx, ex, rv, rw', rfl, sb, k⟩ := hh
    exact ht x' v w S1' hx ex rv rw' s H C cl fp S1' H' (Ext.refl _) sb Q k pins s' I
  · obtain ⟨S1', x', v, w, hx, hp, ex, rv, rw', rfl, sb, k⟩ := hh
    exact he x' v w S1' hx hp ex rv rw' s H C cl fp S1' H' (Ext.refl _) sb Q k pins s' I
end
section
variable {X : Cx} {iter e : Expr} {σ : L2.St} {S H : Hp} {De : Ends} {pos : Pos} {rest body : List Stmt}
/-- for x in xs: each turn leaves what was stable as it was -/
theorem ws_for {α : Type} [Rep α] {xs : List α} (i : Nat) {x : Str} {tp : Pos} (Iv : Nat → Hp → L2.St → Prop) (po : PassesOwn (model X.prog X.w) X.A X.env X.xe) (hc : X.calm = true) (nd : X.N.Nodup) (hi : EvI LT X (.Name x tp) iter σ S xs) (s : Sub S H)
    (h0 : ∀ S' H', At S H S' H' → Iv 0 S' σ)
    (hb : ∀ k x v σ' S' H', xs[k]? = some x → At S H S' H' → Iv k S' σ' → rep X.K X.mg S' v x → ∀ N : L2.St → Hp → Prop, (∀ σ2 S2 H2, At S' H' S2 H2 → Iv (k + 1) S2 σ2 → N σ2 H2) →
      WSs X body { De with nx := N, ct := N, bk := WSs X rest De } (σ'.set i (some v)) H')
    (he : ∀ σ' S' H', At S H S' H' → Iv xs.length S' σ' → WSs X rest De σ' H')
    (ix : ∀ {k S S' σ}, Ext S S' → Iv k S σ → Iv k S' σ)
    (hN : X.N[i]? = some x := by rfl) (lx : Loc X.env.scope x := by first | exact Or.inl rfl | exact Or.inr rfl) (fx : X.fn x = true ∨ X.env.scope.names.lookup x = some .local := by first | exact .inl rfl | exact .inr rfl)
    (hs : ∀ x, foldedSetIterable iter X.env x = pure x := by intro _; rfl) : WSs X (.For (.Name x tp) iter body [] pos :: rest) De σ H := by
  refine WSs.seq (WS.of (ps_for po hc piS (pg_name nd hN lx fx) pssS hs) (hi S H (Ext.refl S) s trivial _ fun J S2 H2 a2 Y => ?_))
  refine ⟨fun k m σ' H' => m = xs.length - k ∧ k ≤ xs.length ∧ ∃ S', At S2 H2 S' H' ∧ Iv k S' σ', ⟨xs.length, rfl, Nat.zero_le _, S2, At.refl a2.i, h0 S2 H2 a2⟩, ?_⟩
  rintro k m σ' H' ⟨rfl, hk, S', b, iv⟩
  by_cases hlt : k < xs.length
  · refine .inr ?_
    have hx : xs[k]? = some xs[k] := List.getElem?_eq_getElem hlt
    obtain ⟨go, yl⟩ := (Y k S' H' b.s b.i b.z).1 _ hx
    refine ⟨go, fun σ2 H3 => ∃ S3, At S2 H2 S3 H3 ∧ Iv (k + 1) S3 σ2, fun σ2 H3 ⟨S3, b3, iv3⟩ => ⟨xs.length - (k + 1), by omega, rfl, hlt, S3, b3, iv3⟩, fun v H3 hy => ?_⟩
    obtain ⟨S3, a3, r3⟩ := yl v H3 hy
    exact hb k _ v σ' S3 H3 hx ((a2.trans b).trans a3) (ix a3.s iv) r3 _ fun σ4 S4 H4 a4 iv4 => ⟨S4, (b.trans a3).trans a4, iv4⟩
  · have ek : k = xs.length := by omega
    subst ek
    exact .inl ⟨(Y _ S' H' b.s b.i b.z).2 (Nat.le_refl _), he σ' S' H' (a2.trans b) iv⟩
/-- try: body; except c: suite -/
theorem ws_tryO {x : Str} {c : Value} {suite : List Stmt} {b0 : Stmt} {np pos' : Pos} {Wout : WX} (hs : X.stack = X.env :: X.outer) (hf : X.env.frame = some X.env.locals) (hc : Names X x c) (tk : Takes X Wout)
    (hb : ∀ pn xe, Takes (X.tr pn xe) (wOnly X.K c (fun a cls d D σ H => ∀ oe pn, Zc cls d oe → (∃ vs, oe.data = .fields vs) → WSs (X.suite a ((a, oe) :: pn)) (b0 :: suite) D σ H) Wout { De with nx := WSs X rest De }) → PassesOwn (model X.prog X.w) X.A X.env xe → WSs (X.tr pn xe) body { De with nx := WSs X rest De } σ H) :
    WSs X (.Try body [.ExceptHandler (some (.Name x np)) none (b0 :: suite) pos'] [] [] pos :: rest) De σ H :=
  WSs.seq (WS.of (ps_try_only (tb := fun W D σ H => ∀ pn xe, Takes (X.tr pn xe) W → PassesOwn (model X.prog X.w) X.A X.env xe → WSs (X.tr pn xe) body D σ H) (ts := fun a cls d D σ H => ∀ oe pn, Zc cls d oe → (∃ vs, oe.data = .fields vs) → WSs (X.suite a ((a, oe) :: pn)) (b0 :: suite) D σ H) hs hf hc tk
    (fun W pn xe tk po => ⟨fun pins s σ H D I h => h pn xe tk po pins s I⟩) (fun a oe cls d pn hz hd => ⟨fun pins s σ H D I h => h oe pn hz hd pins s I⟩)) hb)
theorem ws_tryA {x n : Str} {c : Value} {suite : List Stmt} {b0 : Stmt} {np pos' : Pos} {Wout : WX} (i : Nat) (hs : X.stack = X.env :: X.outer) (hf : X.env.frame = some X.env.locals) (nd : X.N.Nodup) (hc : Names X x c) (tk : Takes X Wout)
    (hb : ∀ pn xe, Takes (X.tr pn xe) (wAs X.K c i (fun a cls d D σ H => ∀ oe pn, Zc cls d oe → (∃ vs, oe.data = .fields vs) → WSs (X.suite a ((a, oe) :: pn)) (b0 :: suite) D σ H) Wout { De with nx := WSs X rest De }) → PassesOwn (model X.prog X.w) X.A X.env xe → WSs (X.tr pn xe) body { De with nx := WSs X rest De } σ H)
    (hi : X.N[i]? = some n := by rfl) (hln : X.env.kindOf n = some .local := by rfl) :
    WSs X (.Try body [.ExceptHandler (some (.Name x np)) (some n) (b0 :: suite) pos'] [] [] pos :: rest) De σ H :=
  WSs.seq (WS.of (L2.ps_try_as (tb := fun W D σ H => ∀ pn xe, Takes (X.tr pn xe) W → PassesOwn (model X.prog X.w) X.A X.env xe → WSs (X.tr pn xe) body D σ H) (ts := fun a cls d D σ H => ∀ oe pn, Zc cls d oe → (∃ vs, oe.data = .fields vs) → WSs (X.suite a ((a, oe) :: pn)) (b0 :: suite) D σ H) hs hf nd hi hln hc tk
    (fun W pn xe tk po => ⟨fun pins s σ H D I h => h pn xe tk po pins s I⟩) (fun a oe cls d pn hz hd => ⟨fun pins s σ H D I h => h oe pn hz hd pins s I⟩)) hb)
end
end Tl
namespace Tl
open PySem PySem.Spec PyProof.Rows L2
/-! ### displays of plain values; exceptions held -/
theorem le_line {n : Nat} (h : n ≤ 1000) : n ≤ sizeLine := by
  have hs : sizeLine = 16777216 := sizeLine_eq
  omega
section
variable {X : Cx} {e : Expr} {es : List Expr} {σ : L2.St} {S : Hp} {p p2 pos : Pos}
abbrev EvDs (X : Cx) (es : List Expr) (σ : L2.St) (S : Hp) (ds : List D) : Prop := EvA X es σ S fun vs S' => D.reps S' ds vs
theorem eds_nil : EvDs X [] σ S [] := ea_nil
theorem st_con {c : Const} {k : Nat} {env : Env} : starEach (.Constant c k p :: es) env = (false, eval (.Constant c k p) env) :: starEach es env := rfl
theorem st_nam {x : Str} {env : Env} : starEach (.Name x p :: es) env = (false, eval (.Name x p) env) :: starEach es env := rfl
theorem st_tup {fs : List Expr} {k : Nat} {env : Env} : starEach (.Tuple fs k p :: es) env = (false, eval (.Tuple fs k p) env) :: starEach es env := rfl
theorem st_lst {fs : List Expr} {env : Env} : starEach (.List fs p :: es) env = (false, eval (.List fs p) env) :: starEach es env := rfl
theorem st_dct {fs gs} {env : Env} : starEach (.Dict fs gs p :: es) env = (false, eval (.Dict fs gs p) env) :: starEach es env := rfl
theorem st_una {o : UnaryOp} {a : Expr} {env : Env} : starEach (.UnaryOp o a p :: es) env = (false, eval (.UnaryOp o a p) env) :: starEach es env := rfl
theorem st_bin {o : Operator} {a b : Expr} {env : Env} : starEach (.BinOp a o b p :: es) env = (false, eval (.BinOp a o b p) env) :: starEach es env := rfl
theorem eds_cons {d : D} {ds : List D} (ha : Ev X e σ S d) (hs : EvDs X es σ S ds) (hst : starEach (e :: es) X.env = (false, eval e X.env) :: starEach es X.env := by first | with_reducible exact st_con | with_reducible exact st_nam | with_reducible exact st_tup | with_reducible exact st_lst | with_reducible exact st_dct | with_reducible exact st_una | with_reducible exact st_bin | rfl) : EvDs X (e :: es) σ S (d :: ds) := fun S1 H1 e1 s Q q =>
  ea_cons ha hs (fun k h => rep_ext h k) hst S1 H1 e1 s Q fun vs S2 H2 a2 ⟨v, r, h1, h2, h3⟩ => q vs S2 H2 a2 ⟨v, r, h1, h2, h3⟩
theorem ev_nonD {j : Nat} : Ev X (.Constant .none j pos) σ S D.non := fun S1 H1 _ s Q q => WE.of pe_non (q _ S1 H1 (At.refl s) rfl)
theorem ev_blD {b : Bool} {j : Nat} : Ev X (.Constant (.bool b) j pos) σ S (D.bl b) := fun S1 H1 _ s Q q => WE.of pe_bl (q _ S1 H1 (At.refl s) rfl)
theorem ev_iD {i : Int} {j : Nat} : Ev X (.Constant (.int i) j pos) σ S (D.int i) := fun S1 H1 _ s Q q => WE.of pe_int (q _ S1 H1 (At.refl s) rfl)
theorem ev_sD {i : Str} {j : Nat} : Ev X (.Constant (.str i) j pos) σ S (D.str i) := fun S1 H1 _ s Q q => WE.of pe_str (q _ S1 H1 (At.refl s) rfl)
theorem ev_toD {i : Int} (h : Ev X e σ S i) : Ev X e σ S (D.int i) := fun S1 H1 e1 s Q q => h S1 H1 e1 s Q fun v S2 H2 a2 r2 => q v S2 H2 a2 r2
theorem ev_dctD : Ev X (.Dict [] [] pos) σ S D.dct := fun S1 H1 _ s Q q => WE.of pe_dnewK fun d hd => q _ _ _ (At.new s hd) ⟨d, rfl, upd_same⟩
theorem ev_tupD {ds : List D} {k : Nat} (h : EvDs X es σ S ds) (hl : ds.length ≤ 1000 := by exact Nat.le_of_ble_eq_true rfl) : Ev X (.Tuple es k pos) σ S (D.tup ds) := fun S1 H1 e1 s Q q =>
  WE.of (pe_tup paS) (h S1 H1 e1 s _ fun vs S2 H2 a2 r2 => ⟨by rw [D.reps_len ds vs r2]; exact le_line hl, fun t ht => q _ _ _ (a2.trans (At.new a2.i ht)) ⟨t, vs, rfl, upd_same, D.reps_ext (ext_new (a2.i.out ht)) ds vs r2⟩⟩)
theorem ev_lstD {ds : List D} (h : EvDs X es σ S ds) (hl : ds.length ≤ 1000 := by exact Nat.le_of_ble_eq_true rfl) : Ev X (.List es pos) σ S (D.lst ds) := fun S1 H1 e1 s Q q =>
  WE.of (pe_lst paS) (h S1 H1 e1 s _ fun vs S2 H2 a2 r2 => ⟨by rw [D.reps_len ds vs r2]; exact le_line hl, fun t ht => q _ _ _ (a2.trans (At.new a2.i ht)) ⟨t, vs, rfl, upd_same, D.reps_ext (ext_new (a2.i.out ht)) ds vs r2, le_line hl⟩⟩)
theorem ev_lstDs {ds : List D} (h : Ev X e σ S (D.lst ds)) : Ev X e σ S ds := fun S1 H1 e1 s Q q => h S1 H1 e1 s Q fun v S2 H2 a2 ⟨a, ys, h1, h2, h3, h4⟩ => q v S2 H2 a2 ⟨a, ys, h1, h2, (by
  have : ∀ (ds : List D) (vs : List V), D.reps S2 ds vs → Reps X.K X.mg S2 vs ds := fun ds => by
    induction ds with
    | nil => intro vs h; rw [show vs = [] from h]; exact .nil
    | cons d ds ih =>
      intro vs h
      obtain ⟨v, r, rfl, k1, k2⟩ : ∃ v r, vs = v :: r ∧ D.rep S2 d v ∧ D.reps S2 ds r := h
      exact .cons k1 (ih r k2)
  exact this ds ys h3), h4⟩
end
theorem EvW.to {X : Cx} {e : Expr} {σ : L2.St} {S : Hp} {x y : Bool} (h : EvW X e σ S x) (q : x = y) : EvW X e σ S y := q ▸ h
/-! ### an exception's class -/
structure XcT (G : Gx) (x : Str) : Prop where
  exm : PySem.W.exmOne G.K (.ref (clsAt G.mg x)) (.ref (clsAt G.mg x)) = some true
  ec : ExcC G.K (clsAt G.mg x)
def excTB (x : Str) (K : PySem.W.Frag) : Bool := PySem.W.exmOne K (.ref (He.ga K x)) (.ref (He.ga K x)) == some true && (He.eqO (PySem.W.findIn K (.ref (He.ga K x)) "__getattribute__") (some (some (.builtin "BaseException.__getattribute__"))) && (He.eqO (PySem.W.findIn K (.ref (He.ga K x)) "__getattr__") (some none) &&
  (PySem.W.subIn K (.ref (He.ga K x)) (.type "BaseException") == some true && (PySem.W.hasDictIn K (He.ga K x) && (He.eqO (PySem.W.findIn K (.ref (He.ga K x)) "__class__") (some (some (.builtin "object.__class__"))) && (He.eqO (PySem.W.specialIn K (.builtin "object.__class__") "__get__") (some (some (.builtin "getset_descriptor.__get__"))) &&
  (PySem.W.takesIn K (.builtin "object.__class__") == some true && PySem.W.mroIn K (He.ga K x) (.type "object") == some true)))))))
theorem excTB_ok {x : Str} {K : PySem.W.Frag} (h : excTB x K = true) : PySem.W.exmOne K (.ref (He.ga K x)) (.ref (He.ga K x)) = some true ∧ ExcC K (He.ga K x) := by
  obtain ⟨h1, h⟩ := He.ba h
  obtain ⟨h2, h⟩ := He.ba h
  obtain ⟨h3, h⟩ := He.ba h
  obtain ⟨h4, h⟩ := He.ba h
  obtain ⟨h5, h⟩ := He.ba h
  obtain ⟨h6, h⟩ := He.ba h
  obtain ⟨h7, h⟩ := He.ba h
  obtain ⟨h8, h9⟩ := He.ba h
  exact ⟨beq_iff_eq.mp h1, He.eqO_ok h2, He.eqO_ok h3, beq_iff_eq.mp h4, h5, He.eqO_ok h6, He.eqO_ok h7, beq_iff_eq.mp h8, beq_iff_eq.mp h9⟩
/-- the class x is below y; below the built-in T -/
def belowB (x y : Str) (K : PySem.W.Frag) : Bool := PySem.W.kitOne K (.ref (He.ga K x)) (.ref (He.ga K y)) == some true
def belowT (x : Str) (T : String) (K : PySem.W.Frag) : Bool := PySem.W.kitOne K (.ref (He.ga K x)) (.type T) == some true
def excFB (x : Str) (bm : List Value) (nw : String) (K : PySem.W.Frag) : Bool := PySem.W.excIn K (He.ga K x) bm nw && (PySem.W.keepIn K (.ref (He.ga K x)) && (PySem.W.subIn K (.ref (He.ga K x)) (.type "BaseException") == some true && PySem.W.typeIn K (.ref (He.ga K x)) == some (.type "type")))
theorem excFB_ok {x : Str} {bm : List Value} {nw : String} {K : PySem.W.Frag} (h : excFB x bm nw K = true) : PySem.W.excIn K (He.ga K x) bm nw = true ∧ PySem.W.keepIn K (.ref (He.ga K x)) = true ∧ PySem.W.subIn K (.ref (He.ga K x)) (.type "BaseException") = some true ∧ PySem.W.typeIn K (.ref (He.ga K x)) = some (.type "type") := by
  obtain ⟨h1, h⟩ := He.ba h
  obtain ⟨h2, h⟩ := He.ba h
  obtain ⟨h3, h4⟩ := He.ba h
  exact ⟨h1, h2, beq_iff_eq.mp h3, beq_iff_eq.mp h4⟩
section
variable {X : Cx} {p p1 p2 pos : Pos} {S : Hp} {σ : L2.St} {a : Addr} {oe : Obj} {pn : List (Addr × Obj)} {x n : Str} {D0 : Addr}
/-- isinstance(e, C), in the suite that holds e: a class of the module, a built-in one -/
theorem ev_isE {C : Addr} (i : Nat) (ec : ExcC X.K D0) (hz : Zc (.ref D0) none oe) (hd : ∃ vs, oe.data = .fields vs) (hm : X.mg "isinstance" = none) (hs : σ[i]? = some (some (.ref a))) (hmC : X.mg x = some (.ref C)) (hk : PySem.W.kitOne X.K (.ref D0) (.ref C) = some true)
    (hN : X.N[i]? = some n := by rfl) (hv : Vis X.env.scope n := by first | exact Or.inl rfl | exact Or.inr (Or.inl rfl)) (hg : Gl X "isinstance" := by rfl) (hg2 : Gl X x := by rfl) (hdb : (x == ("__debug__" : Str)) = false := by decide) (hnd : (n == ("__debug__" : Str)) = false := by decide) (hcd : (n == ("__classdict__" : Str)) = false := by decide)
    (hst : starEach (.Name n p1 :: [.Name x p2]) X.env = (false, eval (.Name n p1) X.env) :: starEach [.Name x p2] X.env := by rfl) (hst2 : starEach (.Name x p2 :: []) X.env = (false, eval (.Name x p2) X.env) :: starEach [] X.env := by rfl) (hpl : (backTo pos (starEach [.Name x p2] X.env)).any (·.1) = false := by rfl) :
    Ev (X.suite a ((a, oe) :: pn)) (.Call (.Name "isinstance" p) [.Name n p1, .Name x p2] [] pos) σ S true := fun S1 H1 e1 s Q q =>
  WE.of (X := X.suite a ((a, oe) :: pn)) (pe_callB (X := X.suite a ((a, oe) :: pn)) (call_isE ec hz hd) hg hm (by decide +kernel) (pa_cons (X := X.suite a ((a, oe) :: pn)) (pe_var (X := X.suite a ((a, oe) :: pn)) hN hv hnd hcd) (pa_cons (X := X.suite a ((a, oe) :: pn)) (pe_glob (X := X.suite a ((a, oe) :: pn)) (v := .ref C) hg2 hmC rfl hdb) pa_nil hst2) hst) (by decide) (by decide) hst hpl)
    ⟨.ref a, hs, .ref C, .ref C, true, rfl, fun u h => h, hk, q _ S1 H1 (At.refl s) rfl⟩
theorem ev_isET {T : String} (i : Nat) (ec : ExcC X.K D0) (hz : Zc (.ref D0) none oe) (hd : ∃ vs, oe.data = .fields vs) (hm : X.mg "isinstance" = none) (hs : σ[i]? = some (some (.ref a))) (hmC : X.mg x = none) (hb : bootBuiltins x = some (.type T)) (hk : PySem.W.kitOne X.K (.ref D0) (.type T) = some true)
    (hN : X.N[i]? = some n := by rfl) (hv : Vis X.env.scope n := by first | exact Or.inl rfl | exact Or.inr (Or.inl rfl)) (hg : Gl X "isinstance" := by rfl) (hg2 : Gl X x := by rfl) (hxn : x ≠ "__name__" := by decide) (hdb : (x == ("__debug__" : Str)) = false := by decide) (hnd : (n == ("__debug__" : Str)) = false := by decide) (hcd : (n == ("__classdict__" : Str)) = false := by decide)
    (hst : starEach (.Name n p1 :: [.Name x p2]) X.env = (false, eval (.Name n p1) X.env) :: starEach [.Name x p2] X.env := by rfl) (hst2 : starEach (.Name x p2 :: []) X.env = (false, eval (.Name x p2) X.env) :: starEach [] X.env := by rfl) (hpl : (backTo pos (starEach [.Name x p2] X.env)).any (·.1) = false := by rfl) :
    Ev (X.suite a ((a, oe) :: pn)) (.Call (.Name "isinstance" p) [.Name n p1, .Name x p2] [] pos) σ S true := fun S1 H1 e1 s Q q =>
  WE.of (X := X.suite a ((a, oe) :: pn)) (pe_callB (X := X.suite a ((a, oe) :: pn)) (call_isE ec hz hd) hg hm (by decide +kernel) (pa_cons (X := X.suite a ((a, oe) :: pn)) (pe_var (X := X.suite a ((a, oe) :: pn)) hN hv hnd hcd) (pa_cons (X := X.suite a ((a, oe) :: pn)) (pe_bltn (X := X.suite a ((a, oe) :: pn)) (v := .ty T) hg2 hmC hb rfl hxn hdb) pa_nil hst2) hst) (by decide) (by decide) hst hpl)
    ⟨.ref a, hs, .ty T, .type T, true, rfl, fun u h => h, hk, q _ S1 H1 (At.refl s) rfl⟩
end
/-! ### the script -/
structure Scr where
  l : List Int
def KLst (K : PySem.W.Frag) (a : Addr) (xs : List V) : Prop := ∃ (o : Obj) (its : Array Value) (n : Nat), K.lookup a = some o ∧ o.cls = .type "list" ∧ o.dict = none ∧ o.data = .seq its n ∧ its.size ≤ sizeLine ∧ Vals xs its.toList
instance : Rep Scr where
  rep := fun K _ S v x => ∃ a, v = .ref a ∧ (S a = some (.lst (x.l.map V.int)) ∨ KLst K a (x.l.map V.int))
  ext := fun e ⟨a, h1, h2⟩ => ⟨a, h1, h2.imp (e _ _) id⟩
theorem scr_at {K : PySem.W.Frag} {mg : Str → Option Value} {S H : Hp} {v : V} {x : Scr} (h : rep K mg S v x) (s : Sub S H) : ∃ a, v = .ref a ∧ SqL K H a (x.l.map V.int) := by
  obtain ⟨a, h1, h2⟩ := h
  exact ⟨a, h1, h2.elim (fun z => s.lst z) .inr⟩
theorem scr_of {K : PySem.W.Frag} {mg : Str → Option Value} {H : Hp} {a : Addr} {ns : List Int} (h : SqL K H a (ns.map V.int)) : ∃ S, Sub S H ∧ rep K mg S (.ref a) (Scr.mk ns) := by
  rcases h with h | h
  · refine ⟨fun b => if b = a then some (.lst (ns.map V.int)) else none, fun b o e => ?_, a, rfl, .inl (if_pos rfl)⟩
    have e : (if b = a then some (HO.lst (ns.map V.int)) else none) = some o := e
    by_cases q : b = a
    · subst q
      rw [if_pos rfl] at e
      cases e
      exact .inl ⟨rfl, h.imp id fun z => ⟨rfl, z⟩⟩
    · rw [if_neg q] at e
      cases e
  · exact ⟨fun _ => none, fun b o e => (by cases e), a, rfl, .inr h⟩
section
variable {X : Cx} {a b : Expr} {σ : L2.St} {S : Hp} {p pos : Pos}
theorem ev_lenS {x : Scr} (hm : X.mg "len" = none) (ha : Ev X a σ S x) (hg : Gl X "len" := by rfl) (he : starEach (a :: []) X.env = (false, eval a X.env) :: starEach [] X.env := by rfl) (hpl : (backTo pos (starEach [] X.env)).any (·.1) = false := by rfl) :
    Ev X (.Call (.Name "len" p) [a] [] pos) σ S (x.l.length : Int) :=
  ev_b1 call_len_seq ha (fun v S2 H2 _ s r Q q => by
    obtain ⟨l, h1, h2⟩ := scr_at r s
    exact ⟨l, _, by rw [h1], .inl h2, q _ S2 H2 (At.refl s) (by show V.int _ = V.int _; rw [List.length_map])⟩) hm bt_len hg (by decide) (by decide) he hpl
theorem ev_itemS {x : Scr} {y : Int} {i : Int} (ha : Ev X a σ S x) (hb : Ev X b σ S i) (hy : atI x.l i = some y) (hs : PlainIx b := by intro _ _; rfl) : Ev X (.Subscript a b pos) σ S y := fun S1 H1 e1 s Q q =>
  WE.of (pe_ix ix_list peS peS hs) (ha S1 H1 e1 s _ fun v S2 H2 a2 r2 => hb S2 H2 (e1.trans a2.s) a2.i _ fun u S3 H3 a3 r3 => by
    obtain ⟨l, h1, h2⟩ := scr_at (rep_ext r2 a3.s) a3.i
    refine ⟨l, _, i, .int y, h1, r3, h2, ?_, q _ S3 H3 (a2.trans a3) rfl⟩
    unfold atI at hy ⊢
    rw [List.length_map]
    obtain ⟨j, e1, e2⟩ := Option.bind_eq_some_iff.mp hy
    rw [e1]
    show (x.l.map V.int)[j]? = _
    rw [List.getElem?_map, e2]; rfl)
end
/-! ### new lists of one's own into slots -/
section
variable {X : Cx} {e : Expr} {σ : L2.St} {S H : Hp} {De : Ends} {pos pos' : Pos} {rest : List Stmt}
theorem ws_setN {α : Type} [Rep α] {xs : List α} {i : Nat} {x : Str} (nd : X.N.Nodup) (he : EvN X e σ S xs) (s : Sub S H) (k : ∀ l ys S' H', At S H S' H' → H l = none → S' l = none → H' l = some (.lst ys) → Reps X.K X.mg S' ys xs → xs.length ≤ sizeLine → WSs X rest De (σ.set i (some (.ref l))) H')
    (hi : X.N[i]? = some x := by rfl) (hx : Loc X.env.scope x := by first | exact Or.inl rfl | exact Or.inr rfl) (hs : swapsWith e (some (.Name x pos')) pos.line X.env = pure false := by rfl) (hf : X.fn x = true ∨ X.env.scope.names.lookup x = some .local := by first | exact .inl rfl | exact .inr rfl) : WSs X (.Assign [.Name x pos'] e pos :: rest) De σ H :=
  WSs.seq (WS.of (ps_set nd hi hx peS hs hf) (he S H (Ext.refl S) s _ fun l S' H' ys a n1 n2 h r z => k l ys S' H' a n1 n2 h r z))
theorem ws_setNP {α : Type} [Rep α] {φ : List α → Prop} {i : Nat} {x : Str} (nd : X.N.Nodup) (he : EvNP X e σ S φ) (s : Sub S H) (k : ∀ l ys xs S' H', At S H S' H' → H l = none → S' l = none → H' l = some (.lst ys) → Reps X.K X.mg S' ys xs → φ xs → xs.length ≤ sizeLine → WSs X rest De (σ.set i (some (.ref l))) H')
    (hi : X.N[i]? = some x := by rfl) (hx : Loc X.env.scope x := by first | exact Or.inl rfl | exact Or.inr rfl) (hs : swapsWith e (some (.Name x pos')) pos.line X.env = pure false := by rfl) (hf : X.fn x = true ∨ X.env.scope.names.lookup x = some .local := by first | exact .inl rfl | exact .inr rfl) : WSs X (.Assign [.Name x pos'] e pos :: rest) De σ H :=
  WSs.seq (WS.of (ps_set nd hi hx peS hs hf) (he S H (Ext.refl S) s _ fun l S' H' ys xs a n1 n2 h r f z => k l ys xs S' H' a n1 n2 h r f z))
end
/-! ### what lies apart from a list that goes its own way -/
theorem but_mono {S S' : Hp} {p : Addr} (e : Ext S S') : Ext (but S p) (but S' p) := fun a o h => by
  by_cases q : a = p
  · subst q; rw [but_self] at h; cases h
  · rw [but_ne q] at h ⊢; exact e a o h
theorem pairs_but {K : PySem.W.Frag} {mg : Str → Option Value} {S : Hp} {p : Addr} {zs : List V} (hp : S p = some (.lst zs)) {vs : List V} {xs : List (Int × Int)} (h : Reps K mg S vs xs) : Reps K mg (but S p) vs xs := by
  induction h with
  | nil => exact .nil
  | cons h _ ih =>
    obtain ⟨t, a, b, h1, h2, h3, h4⟩ := h
    refine .cons ⟨t, a, b, h1, ?_, h3, h4⟩ ih
    rw [but_ne (fun z => by rw [z, hp] at h2; cases h2)]
    exact h2
theorem strm_of {ys : List V} {K : PySem.W.Frag} {mg : Str → Option Value} {S : Hp} {i j : Int} (h : Reps K mg S ys [i, j]) (j0 : 0 ≤ j) (j1 : j < 2147483647) : Stream (some (.lst ys)) := by
  rw [reps_int h]
  exact ⟨i, j, rfl, j0, j1⟩
end Tl
namespace Tl
open PySem PySem.Spec PyProof.Rows L2
/-! ### facts for the head; the law's def -/
def propB (x f : Str) (K : PySem.W.Frag) : Bool := He.eqO (PySem.W.findIn K (.ref (He.ga K x)) f) (some (some (.ref (He.ma K (He.ga K x) f)))) && (He.eqO (PySem.W.specialIn K (.ref (He.ma K (He.ga K x) f)) "__get__") (some (some (.builtin "property.__get__"))) &&
  (PySem.W.takesIn K (.ref (He.ma K (He.ga K x) f)) == some true && (match PySem.W.recIn K (He.ma K (He.ga K x) f) "property" with
    | some (.ref g :: _) => g == recHead K (He.ma K (He.ga K x) f) "property"
    | _ => false)))
theorem propB_ok {x f : Str} {K : PySem.W.Frag} (h : propB x f K = true) : PropOf K (He.ga K x) f (He.ma K (He.ga K x) f) (recHead K (He.ma K (He.ga K x) f) "property") := by
  obtain ⟨h1, h⟩ := He.ba h
  obtain ⟨h2, h⟩ := He.ba h
  obtain ⟨h3, h4⟩ := He.ba h
  refine ⟨He.eqO_ok h1, He.eqO_ok h2, beq_iff_eq.mp h3, ?_⟩
  split at h4
  · rename_i g r e
    rw [e, beq_iff_eq.mp h4]
    exact ⟨r, rfl⟩
  · cases h4
theorem clsAt_ga {mg : Str → Option Value} {x : Str} {K : PySem.W.Frag} (h : mg x = some (.ref (He.ga K x))) : clsAt mg x = He.ga K x := by
  unfold clsAt
  rw [h]
/-- a promise that asks for no exception, where none is told -/
theorem ok_calm {P : Program} {w : World} {K : PySem.W.Frag} {mg : Str → Option Value} {base : Heap} {k : Nat} {f : Addr} {fd : FuncData} {ps : List Str} {sp : Sp} (hE : ∀ vs H Q E E', sp vs H Q E → sp vs H Q E') (F : FnOk P w K mg base (L2.CX P w) k f fd ps sp) : FnOk P w K mg base (fun _ _ _ _ _ _ => False) k f fd ps sp :=
  ⟨F.len, fun A outer s H args us vs Q E hr he hb hv hs => codeAny_mono (F.run A outer s H args us vs Q (fun _ _ _ => False) hr he hb hv (hE _ _ _ _ _ hs)) fun r s' h => by
    cases r with
    | error e =>
      obtain ⟨_, _, _, _, _, _, _, _, _, _, _, _, z⟩ := h
      exact z
    | ok v => cases v <;> exact h⟩
theorem Fn.ok_ {G : Gx} {x qual : Str} {st : Stmt} {f : Addr} {fd : FuncData} {N ps : List Str} {n : Nat} {sp : Sp} (F : FunD G.K x qual (defArgs st) (defBody st) (defScope st) [] [] f fd) (S : FnScope N ps (defScope st)) (len : ∀ vs H Q E, sp vs H Q E → vs.length = ps.length)
    (hbody : ∀ (cdv : Value) (A : Around) (outer : List Env) (s : Shared) (H : Hp) (vs : List V) (Q : VK) (E : XK), Fc G (cxF G N qual (defScope st) f cdv A outer s H E) n E → sp vs H Q E →
      WSs (cxF G N qual (defScope st) f cdv A outer s H E) (defBody st) { nx := fun _ H' => Q .non H', rt := Q } (start N vs) H) : FnOk G.P G.w G.K G.mg G.base (L2.CX G.P G.w) (n + 1) f fd ps sp :=
  F.ok (CX := L2.CX G.P G.w) S len fun cdv A outer s H vs Q E hr h => ⟨_, pssS, hbody cdv A outer s H vs Q E ⟨⟨rfl, rfl, rfl, rfl, rfl⟩, rfl, hr, S.nd, takes_of rfl rfl rfl rfl, passes_of rfl, rfl, rfl⟩ h⟩
end Tl
set_option maxHeartbeats 0
namespace Pv
open PySem PySem.Spec PyProof.Rows L2 Tl
def top (i : Nat) : Stmt := PySem.Challenge.pw_cubeviews_k01_plans.main.body.getD i (.Pass ⟨0, 0, 0, 0⟩)
abbrev s_is_integer : Stmt := top 6
def d_is_integer : DefE := ⟨fun K => He.ga K "is_integer", "is_integer", "is_integer", defArgs s_is_integer, defBody s_is_integer, defScope s_is_integer, [], []⟩
abbrev s_is_number : Stmt := top 7
def d_is_number : DefE := ⟨fun K => He.ga K "is_number", "is_number", "is_number", defArgs s_is_number, defBody s_is_number, defScope s_is_number, [], []⟩
abbrev s_is_pair : Stmt := top 8
def d_is_pair : DefE := ⟨fun K => He.ga K "is_pair", "is_pair", "is_pair", defArgs s_is_pair, defBody s_is_pair, defScope s_is_pair, [], []⟩
abbrev s_PlanD_initD : Stmt := inClass (top 9) 0
def d_PlanD_initD : DefE := ⟨fun K => He.ma K (He.ga K "Plan") "__init__", "__init__", "Plan.__init__", defArgs s_PlanD_initD, defBody s_PlanD_initD, defScope s_PlanD_initD, [], []⟩
abbrev s_Plan_full : Stmt := inClass (top 9) 1
def d_Plan_full : DefE := ⟨fun K => recHead K (He.ma K (He.ga K "Plan") "full") "classmethod", "full", "Plan.full", defArgs s_Plan_full, defBody s_Plan_full, defScope s_Plan_full, [], []⟩
abbrev s_Plan_is_place : Stmt := inClass (top 9) 2
def d_Plan_is_place : DefE := ⟨fun K => He.ma K (He.ga K "Plan") "is_place", "is_place", "Plan.is_place", defArgs s_Plan_is_place, defBody s_Plan_is_place, defScope s_Plan_is_place, [], []⟩
abbrev s_Plan_rows : Stmt := inClass (top 9) 3
def d_Plan_rows : DefE := ⟨fun K => recHead K (He.ma K (He.ga K "Plan") "rows") "property", "rows", "Plan.rows", defArgs s_Plan_rows, defBody s_Plan_rows, defScope s_Plan_rows, [], []⟩
abbrev s_Plan_columns : Stmt := inClass (top 9) 4
def d_Plan_columns : DefE := ⟨fun K => recHead K (He.ma K (He.ga K "Plan") "columns") "property", "columns", "Plan.columns", defArgs s_Plan_columns, defBody s_Plan_columns, defScope s_Plan_columns, [], []⟩
abbrev s_Plan_cells : Stmt := inClass (top 9) 5
def d_Plan_cells : DefE := ⟨fun K => recHead K (He.ma K (He.ga K "Plan") "cells") "property", "cells", "Plan.cells", defArgs s_Plan_cells, defBody s_Plan_cells, defScope s_Plan_cells, [], []⟩
abbrev s_PlanD_lenD : Stmt := inClass (top 9) 6
def d_PlanD_lenD : DefE := ⟨fun K => He.ma K (He.ga K "Plan") "__len__", "__len__", "Plan.__len__", defArgs s_PlanD_lenD, defBody s_PlanD_lenD, defScope s_PlanD_lenD, [], []⟩
abbrev s_PlanD_eqD : Stmt := inClass (top 9) 7
def d_PlanD_eqD : DefE := ⟨fun K => He.ma K (He.ga K "Plan") "__eq__", "__eq__", "Plan.__eq__", defArgs s_PlanD_eqD, defBody s_PlanD_eqD, defScope s_PlanD_eqD, [], []⟩
abbrev s__law_stream : Stmt := top 11
def d__law_stream : DefE := ⟨fun K => He.ga K "_law_stream", "_law_stream", "_law_stream", defArgs s__law_stream, defBody s__law_stream, defScope s__law_stream, [], []⟩
abbrev s__law_draw : Stmt := top 12
def d__law_draw : DefE := ⟨fun K => He.ga K "_law_draw", "_law_draw", "_law_draw", defArgs s__law_draw, defBody s__law_draw, defScope s__law_draw, [], []⟩
abbrev s__law_choose : Stmt := top 13
def d__law_choose : DefE := ⟨fun K => He.ga K "_law_choose", "_law_choose", "_law_choose", defArgs s__law_choose, defBody s__law_choose, defScope s__law_choose, [], []⟩
abbrev s__law_raises : Stmt := top 14
def d__law_raises : DefE := ⟨fun K => He.ga K "_law_raises", "_law_raises", "_law_raises", defArgs s__law_raises, defBody s__law_raises, defScope s__law_raises, [], []⟩
abbrev s__law_full_raises : Stmt := top 15
def d__law_full_raises : DefE := ⟨fun K => He.ga K "_law_full_raises", "_law_full_raises", "_law_full_raises", defArgs s__law_full_raises, defBody s__law_full_raises, defScope s__law_full_raises, [], []⟩
abbrev s__law_invalid_holds : Stmt := top 16
def d__law_invalid_holds : DefE := ⟨fun K => He.ga K "_law_invalid_holds", "_law_invalid_holds", "_law_invalid_holds", defArgs s__law_invalid_holds, defBody s__law_invalid_holds, defScope s__law_invalid_holds, [], []⟩
abbrev s_law : Stmt := top 17
def d_law : DefE := ⟨fun K => He.ga K "law", "law", "law", defArgs s_law, defBody s_law, defScope s_law, [], []⟩
def fn : List DefE := [d_is_integer, d_is_number, d_is_pair, d_PlanD_initD, d_Plan_full, d_Plan_is_place, d_Plan_rows, d_Plan_columns, d_Plan_cells, d_PlanD_lenD, d_PlanD_eqD, d__law_stream, d__law_draw, d__law_choose, d__law_raises, d__law_full_raises, d__law_invalid_holds, d_law]
def fa : List Fact := [(He.Fa.glo "CubeError").ok, (He.Fa.glo "InvalidPlan").ok, (He.Fa.glo "is_integer").ok, (He.Fa.glo "is_number").ok, (He.Fa.glo "is_pair").ok, (He.Fa.glo "Plan").ok, (He.Fa.cls "Plan").ok, (He.Fa.glo "_law_stream").ok, (He.Fa.glo "_law_draw").ok, (He.Fa.glo "_law_choose").ok, (He.Fa.glo "_law_raises").ok, (He.Fa.glo "_law_full_raises").ok, (He.Fa.glo "_law_invalid_holds").ok, (He.Fa.glo "law").ok, (He.Fa.free "all").ok, (He.Fa.free "bool").ok, (He.Fa.free "enumerate").ok, (He.Fa.free "int").ok, (He.Fa.free "isinstance").ok, (He.Fa.free "len").ok, (He.Fa.free "list").ok, (He.Fa.free "max").ok, (He.Fa.free "min").ok, (He.Fa.free "range").ok, (He.Fa.free "sorted").ok, (He.Fa.free "tuple").ok, (He.Fa.int "MAX_SIZE" 30).ok, (He.Fa.free "str").ok, (He.Fa.free "dict").ok, (He.Fa.free "any").ok, (He.Fa.free "sum").ok, (He.Fa.free "abs").ok, (He.Fa.free "zip").ok, (He.Fa.free "ValueError").ok, (He.Fa.noat "Plan" "row_count").ok, (He.Fa.noat "Plan" "column_count").ok, (He.Fa.noat "Plan" "own_cells").ok, (He.Fa.noat "Plan" "places").ok, (He.Fa.mkr "Plan").ok, (He.Fa.meth "Plan" "is_place").ok, propB "Plan" "rows", propB "Plan" "columns", propB "Plan" "cells", clsTB "Plan", ownMB "Plan" "__eq__", ownMB "Plan" "__len__", ownNeB "Plan", cmB "Plan" "full", (He.Fa.exc "InvalidPlan").ok, excTB "InvalidPlan", belowB "InvalidPlan" "CubeError", belowT "InvalidPlan" "ValueError"]
abbrev R : PySem.W.OpenRow := PySem.W.OpenLaw.row PySem.Challenge.rw_cubeviews_k01_plans
abbrev hk : PySem.W.Hook := hookF 6 fa fn
def ob (s : PySem.W.SharedT) : AlE := obsFG 6 fa fn (HandSHeadRun.getT s)
theorem ob_eq (s : PySem.W.SharedT) : ob s = hk.obs s.abs := obsFG_eq (HandSHeadRun.getT_eq s)
def loose : List PySem.Str := ["_wall", "CubeError", "InvalidPlan", "MAX_SIZE", "is_integer", "is_number", "is_pair", "Plan", "_law_stream", "_law_draw", "_law_choose", "_law_raises", "_law_full_raises", "_law_invalid_holds"]
theorem run (w : World) : HandSHeadRun.RunEq R (PySem.W.view R.prog [17]) hk ob 4000 loose w := by
  intro os
  kernel_rfl
end Pv
namespace Pv
open PySem PySem.Spec PyProof.Rows L2 Tl
/-! ### plans -/
structure Plan where
  rows : Int
  cols : Int
  cells : List (Int × Int)
deriving DecidableEq
def planF (r c vl vd : V) : List (Str × V) := [("row_count", r), ("column_count", c), ("own_cells", vl), ("places", vd)]
instance : Rep Plan where
  rep := fun K mg S v p => ∃ a dx vl vd, v = .ref a ∧ S a = some (.ins (clsAt mg "Plan") dx (planF (.int p.rows) (.int p.cols) vl vd)) ∧ rep K mg S vl p.cells ∧ rep K mg S vd (Dict.mk (p.cells.map fun c => (c, true)))
  ext := fun e ⟨a, dx, vl, vd, h1, h2, h3, h4⟩ => ⟨a, dx, vl, vd, h1, e _ _ h2, rep_ext h3 e, rep_ext h4 e⟩
/-- the sizes of an object that is perhaps not yet a whole plan -/
structure Grid where
  rows : Int
  cols : Int
instance : Rep Grid where
  rep := fun K mg S v p => ∃ a dx fs, v = .ref a ∧ S a = some (.ins (clsAt mg "Plan") dx fs) ∧ fs.lookup ("row_count" : Str) = some (V.int p.rows) ∧ fs.lookup ("column_count" : Str) = some (V.int p.cols) ∧ fs.lookup ("is_place" : Str) = none
  ext := fun e ⟨a, dx, fs, h1, h2, h3⟩ => ⟨a, dx, fs, h1, e _ _ h2, h3⟩
def Plan.grid (p : Plan) : Grid := ⟨p.rows, p.cols⟩
variable {G : Gx}
theorem plan_grid {K mg S v} {p : Plan} (h : rep K mg S v p) : rep K mg S v p.grid := by
  obtain ⟨a, dx, vl, vd, h1, h2, h3, h4⟩ := h
  exact ⟨a, dx, planF (.int p.rows) (.int p.cols) vl vd, h1, h2, rfl, rfl, rfl⟩
/-- the built-ins are the module's own nowhere -/
structure Bf (mg : Str → Option Value) : Prop where
  isinstance : mg "isinstance" = none
  int : mg "int" = none
  bool : mg "bool" = none
  str : mg "str" = none
  list : mg "list" = none
  dict : mg "dict" = none
  tuple : mg "tuple" = none
  len : mg "len" = none
  all : mg "all" = none
  any : mg "any" = none
  sorted : mg "sorted" = none
  range : mg "range" = none
  sum : mg "sum" = none
  min : mg "min" = none
  max : mg "max" = none
  abs : mg "abs" = none
  enumerate : mg "enumerate" = none
  zip : mg "zip" = none
structure PlanCl (G : Gx) : Prop where
  cl : Cls G.K (clsAt G.mg "Plan")
  n1 : NoAttr G.K (clsAt G.mg "Plan") "row_count"
  n2 : NoAttr G.K (clsAt G.mg "Plan") "column_count"
  n3 : NoAttr G.K (clsAt G.mg "Plan") "own_cells"
  n4 : NoAttr G.K (clsAt G.mg "Plan") "places"
def isInteger (d : D) : Bool := isInt d && !isBool d
def isNumber (d : D) (lo hi : Int) : Bool := match d with
  | .int i => decide (lo ≤ i) && decide (i ≤ hi)
  | _ => false
def isPair (d : D) : Bool := match d with
  | .tup [_, _] => true
  | _ => false
def isPlace (g : Grid) (d : D) : Bool := match d with
  | .tup [a, b] => isNumber a 0 (g.rows - 1) && isNumber b 0 (g.cols - 1)
  | _ => false
def two (d : D) : Bool := match d with
  | .tup xs => decide ((xs.length : Int) = 2)
  | _ => false
theorem two_pair (d : D) : (isTuple d && two d) = isPair d := by
  cases d with
  | tup xs =>
    match xs with
    | [] => rfl
    | [_] => rfl
    | [_, _] => rfl
    | _ :: _ :: _ :: r => show decide (((r.length + 1 + 1 + 1 : Nat) : Int) = 2) = false; exact decide_eq_false (by omega)
  | _ => rfl
abbrev P_is_integer (G : Gx) := Df G "is_integer" ["candidate"] 1 (spF G (fun _ => True) fun x : D × Unit => isInteger x.1)
abbrev P_is_number (G : Gx) := Df G "is_number" ["candidate", "least", "greatest"] 2 (spF G (fun _ => True) fun x : D × Int × Int × Unit => isNumber x.1 x.2.1 x.2.2.1)
abbrev P_is_pair (G : Gx) := Df G "is_pair" ["candidate"] 1 (spF G (fun _ => True) fun x : D × Unit => isPair x.1)
abbrev P_Plan_is_place (G : Gx) := Dm G "Plan" "is_place" ["self", "candidate"] 3 (spF G (fun _ => True) fun x : Grid × D × Unit => isPlace x.1 x.2.1)
abbrev FnD (G : Gx) (x qual : Str) (st : Stmt) (f : Addr) (fd : FuncData) : Prop := FunD G.K x qual (defArgs st) (defBody st) (defScope st) [] [] f fd
/-! #### is_integer, is_number, is_pair -/
theorem sc_is_integer : FnScope ["candidate"] ["candidate"] (defScope s_is_integer) := ⟨rfl, rfl, rfl, by decide +kernel, rfl, by decide +kernel, by decide +kernel⟩
theorem ok_is_integer {f : Addr} {fd : FuncData} (F : FnD G "is_integer" "is_integer" s_is_integer f fd) (hm : G.mg "is_integer" = some (.ref f)) (b : Bf G.mg) : P_is_integer G := by
  refine ⟨f, hm, Fn.mk_ F sc_is_integer (spF_len rfl) (fun _ _ _ _ _ _ us hl => match us, hl with | [_], _ => rfl) fun cdv A outer s H vs Q E fc h => ?_⟩
  obtain ⟨S, ⟨d, _⟩, sb, ⟨v, _, rfl, hv, rfl⟩, _, q⟩ := h
  exact ws_ret (ev_and (ev_isi kit_int bt_int b.isinstance b.int (ev_var 0 hv)) fun _ => ev_one (ev_not (ev_isi kit_bool bt_bool b.isinstance b.bool (ev_var 0 hv)))) sb q
theorem sc_is_number : FnScope ["candidate", "least", "greatest"] ["candidate", "least", "greatest"] (defScope s_is_number) := ⟨rfl, rfl, rfl, by decide +kernel, rfl, by decide +kernel, by decide +kernel⟩
theorem ok_is_number {f : Addr} {fd : FuncData} (F : FnD G "is_number" "is_number" s_is_number f fd) (hm : G.mg "is_number" = some (.ref f)) (d1 : P_is_integer G) : P_is_number G := by
  refine ⟨f, hm, Fn.mk_ F sc_is_number (spF_len rfl) (fun _ _ _ _ _ _ us hl => match us, hl with | [_, _, _], _ => rfl) fun cdv A outer s H vs Q E fc h => ?_⟩
  obtain ⟨S, ⟨d, lo, hi, _⟩, sb, ⟨v, _, rfl, hv, vl, _, rfl, hl, vh, _, rfl, hh, rfl⟩, _, q⟩ := h
  have hA : ∀ i : Int, d = .int i → rep G.K G.mg S v i := fun i e => by subst e; exact hv
  refine ws_ret (ev_and (y := match d with | .int i => decide (lo ≤ i) && decide (i ≤ hi) | _ => false) (ev_call fc.on d1 fc.hr (eas_cons (ev_var 0 hv) eas_nil) trivial) fun hi => ?_) sb fun w S' H' a r => q w S' H' a (by cases d <;> exact r)
  cases d with
  | int i => exact ev_one (ev_lele (ev_var 1 hl) (ev_var 0 (hA i rfl)) (ev_var 2 hh))
  | _ => cases hi
theorem sc_is_pair : FnScope ["candidate"] ["candidate"] (defScope s_is_pair) := ⟨rfl, rfl, rfl, by decide +kernel, rfl, by decide +kernel, by decide +kernel⟩
theorem ok_is_pair {f : Addr} {fd : FuncData} (F : FnD G "is_pair" "is_pair" s_is_pair f fd) (hm : G.mg "is_pair" = some (.ref f)) (b : Bf G.mg) : P_is_pair G := by
  refine ⟨f, hm, Fn.mk_ F sc_is_pair (spF_len rfl) (fun _ _ _ _ _ _ us hl => match us, hl with | [_], _ => rfl) fun cdv A outer s H vs Q E fc h => ?_⟩
  obtain ⟨S, ⟨d, _⟩, sb, ⟨v, _, rfl, hv, rfl⟩, _, q⟩ := h
  refine ws_ret (ev_and (y := two d) (ev_isi kit_tuple bt_tuple b.isinstance b.tuple (ev_var 0 hv)) fun hi => ?_) sb fun w S' H' a r => q w S' H' a (show rep G.K G.mg S' w (isPair d) by rw [← two_pair d]; exact r)
  cases d with
  | tup xs => exact ev_one (ev_cmp (ec_eq (ev_lenT b.len (ev_var 0 hv)) ev_int))
  | _ => cases hi
/-! #### Plan -/
theorem sc_Plan_is_place : FnScope ["self", "candidate", "row", "column"] ["self", "candidate"] (defScope s_Plan_is_place) := ⟨rfl, rfl, rfl, by decide +kernel, rfl, by decide +kernel, by decide +kernel⟩
theorem grid_row {K mg S' v} {g : Grid} (h : rep K mg S' v g) : ∃ a dx fs w, v = .ref a ∧ S' a = some (.ins (clsAt mg "Plan") dx fs) ∧ fs.lookup ("row_count" : Str) = some w ∧ rep K mg S' w g.rows := by
  obtain ⟨a, dx, fs, h1, h2, h3, h4, h5⟩ := h
  exact ⟨a, dx, fs, _, h1, h2, h3, rfl⟩
theorem grid_col {K mg S' v} {g : Grid} (h : rep K mg S' v g) : ∃ a dx fs w, v = .ref a ∧ S' a = some (.ins (clsAt mg "Plan") dx fs) ∧ fs.lookup ("column_count" : Str) = some w ∧ rep K mg S' w g.cols := by
  obtain ⟨a, dx, fs, h1, h2, h3, h4, h5⟩ := h
  exact ⟨a, dx, fs, _, h1, h2, h4, rfl⟩
theorem ok_Plan_is_place {f : Addr} {fd : FuncData} (F : FnD G "is_place" "Plan.is_place" s_Plan_is_place f fd) (hm : Meth G.K (clsAt G.mg "Plan") "is_place" f) (pc : PlanCl G) (d1 : P_is_pair G) (d2 : P_is_number G) : P_Plan_is_place G := by
  refine ⟨pc.cl, f, hm, Fn.mk_ F sc_Plan_is_place (spF_len rfl) (fun _ _ _ _ _ _ us hl => match us, hl with | [_, _], _ => rfl) fun cdv A outer s H vs Q E fc h => ?_⟩
  obtain ⟨S, ⟨g, d, _⟩, sb, ⟨vs, _, rfl, hs, v, _, rfl, hv, rfl⟩, _, q⟩ := h
  refine ws_if (et_not (et_val (ev_call fc.on d1 (fc.hr.mono (by decide)) (eas_cons (ev_var 1 hv) eas_nil) trivial))) sb fun S' H' a => ?_
  cases hp : isPair d with
  | false =>
    refine ws_ret ev_bool a.sub fun w S'' H'' a2 r => q w S'' H'' ((a.forget).trans a2) ?_
    have e : isPlace g d = false := by
      cases d with
      | tup xs =>
        match xs, hp with
        | [], _ => rfl
        | [_], _ => rfl
        | _ :: _ :: _ :: _, _ => rfl
      | _ => rfl
    show rep _ _ _ w (isPlace g d)
    rw [e]; exact r
  | true =>
    obtain ⟨x, y, rfl⟩ : ∃ x y, d = .tup [x, y] := by
      cases d with
      | tup xs =>
        match xs, hp with
        | [x, y], _ => exact ⟨x, y, rfl⟩
      | _ => cases hp
    refine WSs.nil ?_
    refine ws_unpack2 (i := 2) (j := 3) fc.calm fc.nd (ev_var 1 hv) a.sub fun vx vy S2 H2 a2 rx ry => ?_
    have hs' := rep_ext hs a2.s
    refine ws_ret (ev_and (ev_call fc.on d2 (fc.hr.mono (by decide)) (eas_cons (ev_var 2 rx) (eas_cons ev_int (eas_cons (ev_sub (ev_fld pc.cl pc.n1 (ev_var 0 hs') fun _ _ => grid_row) ev_int) eas_nil))) trivial) fun _ =>
      ev_one (ev_call fc.on d2 (fc.hr.mono (by decide)) (eas_cons (ev_var 3 ry) (eas_cons ev_int (eas_cons (ev_sub (ev_fld pc.cl pc.n2 (ev_var 0 hs') fun _ _ => grid_col) ev_int) eas_nil))) trivial)) a2.i fun w S3 H3 a3 r => q w S3 H3 (((a.forget).trans a2).trans a3) r
end Pv
namespace Pv
open PySem PySem.Spec PyProof.Rows L2 Tl
variable {G : Gx}
/-! #### what Plan makes of its arguments -/
def toCell : D → Int × Int
  | .tup [.int a, .int b] => (a, b)
  | _ => (0, 0)
/-- the sorted distinct ones -/
def norm (cs : List (Int × Int)) : List (Int × Int) := ((dictOf (cs.map fun c => (c, true))).map (·.1)).mergeSort le2
def intOf : D → Int
  | .int i => i
  | _ => 0
def listOf : D → List D
  | .lst xs => xs
  | _ => []
def planInit (rows cols cells : D) : Except Exn Plan :=
  if (isNumber rows 1 30 && (isNumber cols 1 30 && isList cells)) = true then
    if ((listOf cells).all (isPlace ⟨intOf rows, intOf cols⟩)) = true then .ok ⟨intOf rows, intOf cols, norm ((listOf cells).map toCell)⟩ else .error (.plain "InvalidPlan")
  else .error (.plain "InvalidPlan")
abbrev P_PlanF (G : Gx) := Dc G "Plan" ["rows", "columns", "cells"] 4 (spIF G "Plan" (fun _ => True) fun x : D × D × D × Unit => planInit x.1 x.2.1 x.2.2.1)
abbrev P_Plan (G : Gx) := Dc G "Plan" ["rows", "columns", "cells"] 4 (spI G "Plan" (fun _ => True) fun x : D × D × D × Unit => planInit x.1 x.2.1 x.2.2.1)
/-! #### facts of dictOf -/
theorem dput_keys {α : Type} (d : List ((Int × Int) × α)) (k : Int × Int) (x : α) : (dput d k x).map (·.1) = if (d.any fun p => decide (p.1 = k)) = true then d.map (·.1) else d.map (·.1) ++ [k] := by
  unfold dput
  split
  · rw [List.map_map]
    refine List.map_congr_left fun p _ => ?_
    show (if p.1 = k then (p.1, x) else p).1 = p.1
    split <;> rfl
  · rw [List.map_append]; rfl
theorem any_key {α : Type} (d : List ((Int × Int) × α)) (k : Int × Int) : (d.any fun p => decide (p.1 = k)) = true ↔ k ∈ d.map (·.1) := by
  rw [List.any_eq_true, List.mem_map]
  constructor
  · rintro ⟨p, hp, e⟩; exact ⟨p, hp, of_decide_eq_true e⟩
  · rintro ⟨p, hp, e⟩; exact ⟨p, hp, decide_eq_true e⟩
theorem foldl_keys {α : Type} : ∀ (l d : List ((Int × Int) × α)), (d.map (·.1)).Nodup → ((l.foldl (fun d p => dput d p.1 p.2) d).map (·.1)).Nodup ∧ ∀ k, k ∈ (l.foldl (fun d p => dput d p.1 p.2) d).map (·.1) ↔ k ∈ d.map (·.1) ∨ k ∈ l.map (·.1)
  | [], d, h => ⟨h, fun k => by simp⟩
  | p :: l, d, h => by
    have hn : ((dput d p.1 p.2).map (·.1)).Nodup := by
      rw [dput_keys]
      split
      · exact h
      · rename_i q
        have q' : p.1 ∉ d.map (·.1) := fun z => q ((any_key d p.1).mpr z)
        rw [List.nodup_append]
        refine ⟨h, by simp, fun a ha b hb => ?_⟩
        have : b = p.1 := by simpa using hb
        subst this
        exact fun z => q' (z ▸ ha)
    obtain ⟨i1, i2⟩ := foldl_keys l _ hn
    refine ⟨i1, fun k => ?_⟩
    rw [List.foldl_cons, i2 k, dput_keys]
    split
    · rename_i q
      have q' := (any_key d p.1).mp q
      constructor
      · rintro (z | z)
        · exact .inl z
        · exact .inr (List.mem_cons_of_mem _ z)
      · rintro (z | z)
        · exact .inl z
        · rcases List.mem_cons.mp z with e | z
          · exact .inl (e ▸ q')
          · exact .inr z
    · simp only [List.mem_append, List.map_cons, List.mem_cons, List.not_mem_nil, or_false]
      exact or_assoc
theorem dictOf_nodup {α : Type} (l : List ((Int × Int) × α)) : ((dictOf l).map (·.1)).Nodup := (foldl_keys l [] (by simp)).1
theorem dictOf_mem {α : Type} (l : List ((Int × Int) × α)) (k : Int × Int) : k ∈ (dictOf l).map (·.1) ↔ k ∈ l.map (·.1) := by
  have := (foldl_keys l [] (by simp)).2 k
  simpa [dictOf] using this
theorem foldl_put_new {α : Type} : ∀ (l d : List ((Int × Int) × α)), ((d ++ l).map (·.1)).Nodup → l.foldl (fun d p => dput d p.1 p.2) d = d ++ l
  | [], d, _ => by simp
  | p :: l, d, h => by
    have q : ¬ (d.any fun q => decide (q.1 = p.1)) = true := fun z => by
      have z' := (any_key d p.1).mp z
      rw [List.map_append, List.nodup_append] at h
      exact h.2.2 _ z' p.1 (by simp) rfl
    rw [List.foldl_cons, show dput d p.1 p.2 = d ++ [p] from if_neg q, foldl_put_new l (d ++ [p]) (by simpa [List.append_assoc] using h)]
    simp
theorem dictOf_id {α : Type} (l : List ((Int × Int) × α)) (h : (l.map (·.1)).Nodup) : dictOf l = l := by
  have := foldl_put_new l [] (by simpa using h)
  simpa [dictOf] using this
theorem norm_nodup (cs : List (Int × Int)) : (norm cs).Nodup := ((List.mergeSort_perm _ _).nodup_iff).mpr (dictOf_nodup _)
theorem norm_mem (cs : List (Int × Int)) (k : Int × Int) : k ∈ norm cs ↔ k ∈ cs := by
  unfold norm
  rw [(List.mergeSort_perm _ _).mem_iff, dictOf_mem, List.map_map]
  simp
theorem norm_len (cs : List (Int × Int)) : (norm cs).length ≤ cs.length := by
  unfold norm
  rw [List.length_mergeSort, List.length_map]
  exact Nat.le_trans (dictOf_len _) (by rw [List.length_map]; exact Nat.le_refl _)
theorem norm_dict (cs : List (Int × Int)) : dictOf ((norm cs).map fun c => (c, true)) = (norm cs).map fun c => (c, true) := dictOf_id _ (by rw [List.map_map, show ((fun x : (Int × Int) × Bool => x.1) ∘ fun c => (c, true)) = id from rfl, List.map_id]; exact norm_nodup cs)
/-! #### lists of places are lists of cells -/
theorem place_cell {g : Grid} {d : D} (h : isPlace g d = true) : ∃ a b, d = .tup [.int a, .int b] := by
  cases d with
  | tup xs =>
    match xs, h with
    | [x, y], h =>
      have h' : (isNumber x 0 (g.rows - 1) && isNumber y 0 (g.cols - 1)) = true := h
      obtain ⟨h1, h2⟩ := Bool.and_eq_true_iff.mp h'
      cases x with
      | int a =>
        cases y with
        | int b => exact ⟨a, b, rfl⟩
        | _ => cases h2
      | _ => cases h1
  | _ => cases h
theorem reps_cells {K : PySem.W.Frag} {mg : Str → Option Value} {S : Hp} {g : Grid} : ∀ (ds : List D) (vs : List V), D.reps S ds vs → ds.all (isPlace g) = true → Reps K mg S vs (ds.map toCell)
  | [], vs, h, _ => by rw [show vs = [] from h]; exact .nil
  | d :: ds, vs, h, k => by
    obtain ⟨v, r, rfl, h2, h3⟩ : ∃ v r, vs = v :: r ∧ D.rep S d v ∧ D.reps S ds r := h
    obtain ⟨k1, k2⟩ := Bool.and_eq_true_iff.mp (show (isPlace g d && ds.all (isPlace g)) = true from k)
    obtain ⟨a, b, rfl⟩ := place_cell k1
    obtain ⟨t, ys, e1, e2, e3⟩ : ∃ t ys, v = .ref t ∧ S t = some (.tup ys) ∧ D.reps S [.int a, .int b] ys := h2
    obtain ⟨y1, r1, rfl, w1, y2, r2, rfl, w2, rfl⟩ : ∃ v r, ys = v :: r ∧ D.rep S (.int a) v ∧ ∃ v2 r2, r = v2 :: r2 ∧ D.rep S (.int b) v2 ∧ r2 = [] := e3
    exact .cons ⟨t, y1, y2, e1, e2, w1, w2⟩ (reps_cells ds r h3 k2)
theorem reps_D {K : PySem.W.Frag} {mg : Str → Option Value} {S : Hp} : ∀ (ds : List D) (vs : List V), D.reps S ds vs → Reps K mg S vs ds
  | [], vs, h => by rw [show vs = [] from h]; exact .nil
  | d :: ds, vs, h => by
    obtain ⟨v, r, rfl, h2, h3⟩ : ∃ v r, vs = v :: r ∧ D.rep S d v ∧ D.reps S ds r := h
    exact .cons h2 (reps_D ds r h3)
theorem lst_D {K : PySem.W.Frag} {mg : Str → Option Value} {S : Hp} {v : V} {ds : List D} (h : rep K mg S v (D.lst ds)) : rep K mg S v ds := by
  obtain ⟨a, ys, h1, h2, h3, h4⟩ : ∃ a ys, v = .ref a ∧ S a = some (.lst ys) ∧ D.reps S ds ys ∧ ds.length ≤ sizeLine := h
  exact ⟨a, ys, h1, h2, reps_D ds ys h3, h4⟩
theorem lst_cells {K : PySem.W.Frag} {mg : Str → Option Value} {S : Hp} {v : V} {ds : List D} {g : Grid} (h : rep K mg S v (D.lst ds)) (k : ds.all (isPlace g) = true) : rep K mg S v (ds.map toCell) := by
  obtain ⟨a, ys, h1, h2, h3, h4⟩ : ∃ a ys, v = .ref a ∧ S a = some (.lst ys) ∧ D.reps S ds ys ∧ ds.length ≤ sizeLine := h
  exact ⟨a, ys, h1, h2, reps_cells ds ys h3 k, by rw [List.length_map]; exact h4⟩
theorem list_len {α : Type} [Rep α] {K : PySem.W.Frag} {mg : Str → Option Value} {S : Hp} {v : V} {xs : List α} (h : rep K mg S v xs) : xs.length ≤ sizeLine := let ⟨_, _, _, _, _, h4⟩ := h; h4
theorem dreps_bool {κ : Type} [TKey κ] {K : PySem.W.Frag} {mg : Str → Option Value} {S S' : Hp} {vs : List (List Key × V)} {xs : List (κ × Bool)} (h : DReps K mg S vs xs) : DReps K mg S' vs xs := by
  induction h with
  | nil => exact .nil
  | cons h _ ih => exact .cons h ih
/-- an object with the field f -/
structure Has (c f : Str) (β : Type) where
  val : β
instance {c f : Str} {β : Type} [Rep β] : Rep (Has c f β) where
  rep := fun K mg S v y => ∃ a dx fs w, v = .ref a ∧ S a = some (.ins (clsAt mg c) dx fs) ∧ fs.lookup f = some w ∧ rep K mg S w y.val
  ext := fun e ⟨a, dx, fs, w, h1, h2, h3, h4⟩ => ⟨a, dx, fs, w, h1, e _ _ h2, h3, rep_ext h4 e⟩
theorem grid_is_place {K : PySem.W.Frag} {mg : Str → Option Value} {S' : Hp} {v : V} {g : Grid} (h : rep K mg S' v g) : ∃ a dx fs, v = .ref a ∧ S' a = some (.ins (clsAt mg "Plan") dx fs) ∧ fs.lookup ("is_place" : Str) = none := by
  obtain ⟨a, dx, fs, h1, h2, h3, h4, h5⟩ := h
  exact ⟨a, dx, fs, h1, h2, h5⟩
theorem has_fld {c f : Str} {β : Type} [Rep β] {K : PySem.W.Frag} {mg : Str → Option Value} {S' : Hp} {v : V} {y : Has c f β} (h : rep K mg S' v y) : ∃ a dx fs w, v = .ref a ∧ S' a = some (.ins (clsAt mg c) dx fs) ∧ fs.lookup f = some w ∧ rep K mg S' w y.val := h
/-! #### Plan.__init__ -/
abbrev N_PlanD_initD : List Str := ["self", "rows", "columns", "cells", "cell"]
theorem sc_PlanD_initD : FnScope N_PlanD_initD ["self", "rows", "columns", "cells"] (defScope s_PlanD_initD) := ⟨rfl, rfl, rfl, by decide +kernel, rfl, by decide +kernel, by decide +kernel⟩
theorem ok_PlanD_initD {f : Addr} {fd : FuncData} (F : FnD G "__init__" "Plan.__init__" s_PlanD_initD f fd) (mk : Mk G.K (clsAt G.mg "Plan") f) (hm : G.mg "Plan" = some (.ref (clsAt G.mg "Plan"))) (ms : ∃ t, G.mg "MAX_SIZE" = some (.int 30 t)) (b : Bf G.mg) (pc : PlanCl G) (xc : Xc G "InvalidPlan")
    (d1 : P_is_number G) (d2 : P_Plan_is_place G) : P_PlanF G := by
  refine ⟨hm, pc.cl, f, mk, Fn.mk_ F sc_PlanD_initD (spIF_len rfl) (fun _ _ _ _ _ _ us hl => match us, hl with | [_, _, _, _], _ => rfl) fun cdv A outer s H vs Q E fc h => ?_⟩
  obtain ⟨S, p, dx, us, ⟨dr, dc, dl, _⟩, rfl, sb, hSp, hHp, ⟨vr, _, rfl, hr, vc, _, rfl, hc, vl, _, rfl, hl, rfl⟩, _, kok, kerr⟩ := h
  have hu := fc.hr.units
  refine ws_if (et_w (ew_or (et_not (et_val (ev_call fc.on d1 (fc.hr.mono (by decide)) (eas_cons (ev_var 1 hr) (eas_cons ev_int (eas_cons (ev_gint ms) eas_nil))) trivial))) fun _ =>
    ew_or (et_not (et_val (ev_call fc.on d1 (fc.hr.mono (by decide)) (eas_cons (ev_var 2 hc) (eas_cons ev_int (eas_cons (ev_gint ms) eas_nil))) trivial))) fun _ =>
    ew_or1 (et_not (et_val (ev_isi kit_list bt_list b.isinstance b.list (ev_var 3 hl)))))) sb fun S1 H1 a1 => ?_
  have b1 : At S H S H1 := a1.forget
  have hp1 := a1.hown hHp hSp
  have eT : (!isNumber dr 1 30 || (!isNumber dc 1 30 || !isList dl)) = !(isNumber dr 1 30 && (isNumber dc 1 30 && isList dl)) := by cases isNumber dr 1 30 <;> cases isNumber dc 1 30 <;> rfl
  show if (!isNumber dr 1 30 || (!isNumber dc 1 30 || !isList dl)) = true then _ else _
  rw [eT]
  cases ok1 : (isNumber dr 1 30 && (isNumber dc 1 30 && isList dl)) with
  | false =>
    refine ws_raise fc.on fc.calm fc.tk xc (kerr _ (by show planInit dr dc dl = _; unfold planInit; rw [if_neg (by rw [ok1]; simp)]) _ _ S H1 ((AtX.refl sb).step b1) ⟨rfl, rfl⟩)
  | true =>
    obtain ⟨k1, k2⟩ := Bool.and_eq_true_iff.mp ok1
    obtain ⟨k2, k3⟩ := Bool.and_eq_true_iff.mp k2
    obtain ⟨r, rfl⟩ : ∃ r, dr = .int r := by cases dr <;> first | exact ⟨_, rfl⟩ | cases k1
    obtain ⟨c, rfl⟩ : ∃ c, dc = .int c := by cases dc <;> first | exact ⟨_, rfl⟩ | cases k2
    obtain ⟨ds, rfl⟩ : ∃ ds, dl = .lst ds := by cases dl <;> first | exact ⟨_, rfl⟩ | cases k3
    have pI : planInit (.int r) (.int c) (.lst ds) = if (ds.all (isPlace ⟨r, c⟩)) = true then .ok ⟨r, c, norm (ds.map toCell)⟩ else .error (.plain "InvalidPlan") := if_pos ok1
    refine WSs.nil ?_
    refine ws_fld (i := 0) (r := fun v S' => rep G.K G.mg S' v r) rfl (ev_var (y := r) 1 hr) b1.i hp1 hSp pc.cl pc.n1 (by decide) fun v2 S2 H2 a2 r2 o2 h2 => ?_
    have b2 := (((AtX.refl sb).step b1).step a2).store (o := .ins (clsAt G.mg "Plan") dx (putF "row_count" v2 [])) o2
    refine ws_fld (i := 0) (r := fun v S' => rep G.K G.mg S' v c) rfl (ev_var (y := c) 2 (rep_ext hc b2.s)) b2.i upd_same o2 pc.cl pc.n2 (by show (1 : Nat) < 1000; decide) fun v3 S3 H3 a3 r3 o3 h3 => ?_
    have b3 := (b2.step a3).store (o := .ins (clsAt G.mg "Plan") dx (putF "column_count" v3 (putF "row_count" v2 []))) o3
    have e2 : v2 = .int r := r2
    have e3 : v3 = .int c := r3
    subst e2 e3
    have hp3 : (upd H3 p (.ins (clsAt G.mg "Plan") dx [("row_count", V.int r), ("column_count", .int c)])) p = some (.ins (clsAt G.mg "Plan") dx [("row_count", V.int r), ("column_count", .int c)]) := upd_same
    have b3' : AtX p S H S3 (upd H3 p (.ins (clsAt G.mg "Plan") dx [("row_count", V.int r), ("column_count", .int c)])) := b3
    show WSs _ _ _ _ (upd H3 p (.ins (clsAt G.mg "Plan") dx [("row_count", V.int r), ("column_count", .int c)]))
    revert b3' hp3
    generalize upd H3 p (.ins (clsAt G.mg "Plan") dx [("row_count", V.int r), ("column_count", .int c)]) = H4
    intro hp4 b4
    -- the test over the cells: self stands still meanwhile
    have s4 : Sub (upd S3 p (.ins (clsAt G.mg "Plan") dx [("row_count", V.int r), ("column_count", .int c)])) H4 := b4.i.add hp4
    have hself : rep G.K G.mg (upd S3 p (.ins (clsAt G.mg "Plan") dx [("row_count", V.int r), ("column_count", .int c)])) (.ref p) (Grid.mk r c) := ⟨p, dx, _, rfl, upd_same, rfl, rfl, rfl⟩
    have hl4 := rep_ext (rep_ext (lst_D hl) b4.s) (ext_new (o := .ins (clsAt G.mg "Plan") dx [("row_count", V.int r), ("column_count", .int c)]) o3)
    refine ws_if (et_not (et_val (ev_all fc.calm b.all (ev_lc (x := "cell") 4 fc.calm fc.nd (ei_list (ev_var 3 hl4)) (list_len hl4) (fun x v S' hx ex rv => fun s' H' C' cl' fp' =>
      ev_meth (G := G) ⟨rfl, rfl, rfl, rfl, rfl⟩ d2 fc.hr (ev_var 0 (rep_ext hself ex)) (eas_cons (ev_var 4 rv) eas_nil) trivial fun _ _ => grid_is_place)
      (ok := blkOk_by (N := N_PlanD_initD) (sc := defScope s_PlanD_initD) (by decide +kernel)))))) s4 fun S5 H5 a5 => ?_
    have s5 : Sub S3 H5 := (a5.thaw o3).sub
    have hp5 := a5.hstd hp4 upd_same
    have b5 : AtX p S H S3 H5 := b4.step (a5.thaw o3).forget
    have eA : ((ds.map fun d => isPlace ⟨r, c⟩ d).all id) = ds.all (isPlace ⟨r, c⟩) := by rw [List.all_map]; rfl
    show if (!((ds.map fun d => isPlace ⟨r, c⟩ d).all id)) = true then _ else _
    rw [eA]
    cases ok2 : ds.all (isPlace ⟨r, c⟩) with
    | false =>
      exact ws_raise fc.on fc.calm fc.tk xc (kerr _ (by show planInit (.int r) (.int c) (.lst ds) = _; rw [pI, if_neg (by rw [ok2]; simp)]) _ _ S3 H5 b5 ⟨rfl, rfl⟩)
    | true =>
      have hc5 : rep G.K G.mg S3 vl (ds.map toCell) := lst_cells (rep_ext hl b5.s) ok2
      refine WSs.nil ?_
      refine ws_fld (i := 0) (r := fun v S' => ∃ l, v = .ref l ∧ S3 l = none ∧ ∃ ys, S' l = some (.lst ys) ∧ Reps G.K G.mg S' ys (norm (ds.map toCell)) ∧ (norm (ds.map toCell)).length ≤ sizeLine) rfl (en_sortedD hu fc.calm b.sorted (em_dc (x := "cell") (fk := fun c => c) (fv := fun _ => true) 4 (by have := hu; omega) fc.calm fc.nd (ei_list (ev_var 3 hc5)) (list_len hc5)
        (fun x v S' hx ex rv => fun s' H' C' cl' fp' => ev_var 4 rv) (fun x v S' hx ex rv => fun s' H' C' cl' fp' => ev_bool) (ok := blkOk_by (N := N_PlanD_initD) (sc := defScope s_PlanD_initD) (by decide +kernel))).ev).fresh s5 hp5 o3 pc.cl pc.n3 (by show (2 : Nat) < 1000; decide) fun v6 S6 H6 a6 ⟨l6, ev6, n6, ys6, hl6, rl6, len6⟩ o6 h6 => ?_
      have r6 : rep G.K G.mg S6 v6 (norm (ds.map toCell)) := ⟨l6, ys6, ev6, hl6, rl6, len6⟩
      have b6 := (b5.step a6).store (o := .ins (clsAt G.mg "Plan") dx [("row_count", V.int r), ("column_count", .int c), ("own_cells", v6)]) o6
      have hp6 : (upd H6 p (.ins (clsAt G.mg "Plan") dx [("row_count", V.int r), ("column_count", .int c), ("own_cells", v6)])) p = some (.ins (clsAt G.mg "Plan") dx [("row_count", V.int r), ("column_count", .int c), ("own_cells", v6)]) := upd_same
      show WSs _ _ _ _ (upd H6 p (.ins (clsAt G.mg "Plan") dx [("row_count", V.int r), ("column_count", .int c), ("own_cells", v6)]))
      revert b6 hp6
      generalize upd H6 p (.ins (clsAt G.mg "Plan") dx [("row_count", V.int r), ("column_count", .int c), ("own_cells", v6)]) = H7
      intro b7 hp7
      have r6' := rep_ext r6 (ext_new (o := .ins (clsAt G.mg "Plan") dx [("row_count", V.int r), ("column_count", .int c), ("own_cells", v6)]) o6)
      have hown : rep G.K G.mg (upd S6 p (.ins (clsAt G.mg "Plan") dx [("row_count", V.int r), ("column_count", .int c), ("own_cells", v6)])) (.ref p) (Has.mk (c := "Plan") (f := "own_cells") (norm (ds.map toCell))) := ⟨p, dx, _, v6, rfl, upd_same, rfl, r6'⟩
      refine ws_fldS (i := 0) (r := fun v S' => ∃ d, v = .ref d ∧ upd S6 p (.ins (clsAt G.mg "Plan") dx [("row_count", V.int r), ("column_count", .int c), ("own_cells", v6)]) d = none ∧ ∃ ys, S' d = some (.dT ys) ∧ DReps G.K G.mg S' ys ((norm (ds.map toCell)).map fun c => (c, true)) ∧ ((norm (ds.map toCell)).map fun c => (c, true)).length ≤ sizeLine) rfl b7.i hp7 o6 ((em_dc (x := "cell") (fk := fun c => c) (fv := fun _ => true) 4 (by have := hu; omega) fc.calm fc.nd (ei_list (ev_fld pc.cl pc.n3 (ev_var 0 hown) fun _ _ => has_fld)) (list_len r6)
        (fun x v S' hx ex rv => fun s' H' C' cl' fp' => ev_var 4 rv) (fun x v S' hx ex rv => fun s' H' C' cl' fp' => ev_bool) (ok := blkOk_by (N := N_PlanD_initD) (sc := defScope s_PlanD_initD) (by decide +kernel))).to (norm_dict _)).fresh pc.cl pc.n4 (by show (3 : Nat) < 1000; decide) fun v8 S8 H8 a8 ⟨d, ev8, n8, ys, hd8, rd8, len8⟩ h8 => ?_
      refine WSs.nil ?_
      have t8 := a8.thaw o6
      have nd8 : d ≠ p := fun z => by rw [z, a8.in_] at hd8; cases hd8
      have b8 := ((b7.step t8).store (o := .ins (clsAt G.mg "Plan") dx (planF (.int r) (.int c) v6 v8)) but_self).done upd_same but_self
      have nd6 : S d = none := by
        cases w : S d with
        | none => rfl
        | some o =>
          have := (b5.step a6).s _ _ w
          rw [upd_ne nd8, this] at n8
          cases n8
      have nl6 : S l6 = none := by
        cases w : S l6 with
        | none => rfl
        | some o => rw [b5.s _ _ w] at n6; cases n6
      have x6 : Tl.Ext S6 (upd (but S8 p) p (.ins (clsAt G.mg "Plan") dx (planF (.int r) (.int c) v6 v8))) := t8.s.trans (ext_new but_self)
      refine kok ⟨r, c, norm (ds.map toCell)⟩ (by show planInit (.int r) (.int c) (.lst ds) = _; rw [pI, if_pos ok2]) _ _ b8 ⟨p, dx, v6, v8, rfl, by rw [fre_new hSp]; exact upd_same, ⟨l6, ys6, ev6, by rw [fre_new nl6]; exact x6 _ _ hl6, pairs_fre b8.s (rl6.ext x6), len6⟩, d, ys, ev8, ?_, dreps_bool rd8, len8⟩
      rw [fre_new nd6, upd_ne nd8, but_ne nd8]
      exact hd8
end Pv
namespace Pv
open PySem PySem.Spec PyProof.Rows L2 Tl
/-! #### the law's stream of numbers -/
section
variable {G : Gx}
def lawStream (xs : List Int) (k : Int) : List Int :=
  let c : Int := if k < xs.length then (atI xs k).getD 0 else 0
  let z := max c (-1 - c)
  [z * (if decide ((10 : Int) ^ 18 ≤ z) = true then 1 else 0), (z % 2147483629 + 7919 * k * k + 31 * k + 17) * 48271 % 2147483647]
abbrev P__law_stream (G : Gx) := Df G "_law_stream" ["script", "k"] 1 (spN G (fun x : Scr × Int × Unit => 0 ≤ x.2.1 ∧ x.2.1 < 1000) fun x => lawStream x.1.l x.2.1)
abbrev P__law_draw (G : Gx) := Df G "_law_draw" ["stream", "count"] 1 (spA G (fun x : Strm × Int × Unit => 0 < x.2.1 ∧ x.2.1 < 1073741824) fun x r => 0 ≤ r ∧ r < x.2.1)
abbrev N__law_draw : List Str := ["stream", "count", "result"]
theorem sc__law_draw : FnScope N__law_draw ["stream", "count"] (defScope s__law_draw) := ⟨rfl, rfl, rfl, by decide +kernel, rfl, by decide +kernel, by decide +kernel⟩
theorem two_rep {K : PySem.W.Frag} {mg : Str → Option Value} {S : Hp} {p : Addr} {i j : Int} : rep K mg (upd S p (.lst [.int i, .int j])) (.ref p) ([i, j] : List Int) := ⟨p, _, rfl, upd_same, .cons rfl (.cons rfl .nil), by show 2 ≤ sizeLine; decide⟩
theorem ok__law_draw {f : Addr} {fd : FuncData} (F : FunD G.K "_law_draw" "_law_draw" (defArgs s__law_draw) (defBody s__law_draw) (defScope s__law_draw) [] [] f fd) (hm : G.mg "_law_draw" = some (.ref f)) : P__law_draw G := by
  refine ⟨f, hm, Fn.mk_ F sc__law_draw (spA_len rfl) (fun _ _ _ _ _ _ us hl => match us, hl with | [_, _], _ => rfl) fun cdv A outer s H vs Q E fc h => ?_⟩
  obtain ⟨S, ⟨st, n, _⟩, sb, ⟨_, _, rfl, ⟨p, rfl, hp⟩, v, _, rfl, hn, rfl⟩, ⟨n0, n1⟩, q⟩ := h
  have n0 : 0 < n := n0
  have n1 : n < 1073741824 := n1
  have hn : v = .int n := hn
  subst hn
  obtain ⟨i, j, hH, j0, j1⟩ := sb.stream hp
  have rn : ∀ {S : Hp}, rep G.K G.mg S (.int n) n := rfl
  refine ws_if (et_cmp (ec_gt (ev_item (i := 0) (y := i) (ev_var (y := [i, j]) 0 two_rep) ev_int rfl) ev_int)) (sb.add hH) fun S1 H1 a1 => ?_
  have b1 := a1.unmark hH hp ⟨i, j, rfl, j0, j1⟩
  have h1 : H1 p = some (.lst [.int i, .int j]) := a1.hstd hH upd_same
  cases hi : decide ((0 : Int) < i) with
  | true =>
    refine ws_set (i := 2) (r := fun v S' => rep G.K G.mg S' v (i % n)) fc.nd (ev_mod (ev_item (i := 0) (y := i) (ev_var (y := [i, j]) 0 two_rep) ev_int rfl) (ev_var (y := n) 1 rn) n0) (b1.i.add h1) fun v2 S2 H2 a2 r2 => ?_
    have r2 : v2 = .int (i % n) := r2
    subst r2
    have b2 := a2.unmark h1 hp ⟨i, j, rfl, j0, j1⟩
    have h2 : H2 p = some (.lst [.int i, .int j]) := a2.hstd h1 upd_same
    refine ws_put (i := 0) (l := p) (ys := [.int i, .int j]) (r := fun v S' => rep G.K G.mg S' v (i / n)) (n := 0) (k := 0) rfl (ev_fdiv (ev_item (i := 0) (y := i) (ev_var (y := [i, j]) 0 two_rep) ev_int rfl) (ev_var (y := n) 1 rn) ⟨n0, n1⟩) ev_int (b2.i.add h2) (fun S' H' a => a.hstd h2 upd_same) rfl (fun v3 S3 H3 a3 r3 => ?_) (fun e h => rep_ext h e)
    have r3 : v3 = .int (i / n) := r3
    subst r3
    have b3 := a3.unmark h2 hp ⟨i, j, rfl, j0, j1⟩
    have p3 : At S H3 S (upd H3 p (.lst [.int (i / n), .int j])) := At.pour b3.i hp ⟨_, _, rfl, j0, j1⟩
    refine ws_ret (r := fun v S' => rep G.K G.mg S' v (i % n)) (ev_var (y := i % n) 2 rfl) p3.i fun w S4 H4 a4 r4 => ?_
    exact q (i % n) ⟨Int.emod_nonneg _ (by omega), Int.emod_lt_of_pos _ n0⟩ w S4 H4 ((((b1.trans b2).trans b3).trans p3).trans a4) r4
  | false =>
    refine WSs.nil ?_
    refine ws_put (i := 0) (l := p) (ys := [.int i, .int j]) (r := fun v S' => rep G.K G.mg S' v ((j * 69621 + 7) % 2147483647)) (n := 1) (k := 1) rfl
      (ev_mod (ev_add (ev_mul (ev_item (i := 1) (y := j) (ev_var (y := [i, j]) 0 two_rep) ev_int rfl) ev_int (.inr (by decide))) ev_int) ev_int (by decide)) ev_int (b1.i.add h1) (fun S' H' a => a.hstd h1 upd_same) rfl (fun v3 S3 H3 a3 r3 => ?_) (fun e h => rep_ext h e)
    have r3 : v3 = .int ((j * 69621 + 7) % 2147483647) := r3
    subst r3
    have b3 := a3.unmark h1 hp ⟨i, j, rfl, j0, j1⟩
    generalize hj : (j * 69621 + 7) % 2147483647 = j'
    have q0 : 0 ≤ j' := by rw [← hj]; exact Int.emod_nonneg _ (by decide)
    have q1 : j' < 2147483647 := by rw [← hj]; exact Int.emod_lt_of_pos _ (by decide)
    have p3 : At S H3 S (upd H3 p (.lst [.int i, .int j'])) := At.pour b3.i hp ⟨_, _, rfl, q0, q1⟩
    have cm : CMul j' j' := .inl ⟨by omega, by omega⟩
    refine ws_ret (r := fun v S' => rep G.K G.mg S' v (j' * j' % 2147483629 / 32 % n))
      (ev_mod (ev_fdiv (ev_mod (ev_mul (ev_item (i := 1) (y := j') (ev_var (y := [i, j']) 0 two_rep) ev_int rfl) (ev_item (i := 1) (y := j') (ev_var (y := [i, j']) 0 two_rep) ev_int rfl) cm) ev_int (by decide)) ev_int ⟨by decide, by decide⟩) (ev_var (y := n) 1 rn) n0)
      (p3.i.add upd_same) fun w S4 H4 a4 r4 => ?_
    have b4 := a4.unmark upd_same hp ⟨i, j', rfl, q0, q1⟩
    exact q _ ⟨Int.emod_nonneg _ (by omega), Int.emod_lt_of_pos _ n0⟩ w S H4 (((b1.trans b3).trans p3).trans b4) r4
abbrev N__law_stream : List Str := ["script", "k", "cell", "size", "mixed"]
theorem sc__law_stream : FnScope N__law_stream ["script", "k"] (defScope s__law_stream) := ⟨rfl, rfl, rfl, by decide +kernel, rfl, by decide +kernel, by decide +kernel⟩
theorem ok__law_stream {f : Addr} {fd : FuncData} (F : FunD G.K "_law_stream" "_law_stream" (defArgs s__law_stream) (defBody s__law_stream) (defScope s__law_stream) [] [] f fd) (hm : G.mg "_law_stream" = some (.ref f)) (b : Bf G.mg) : P__law_stream G := by
  refine ⟨f, hm, Fn.mk_ F sc__law_stream (spN_len rfl) (fun _ _ _ _ _ _ us hl => match us, hl with | [_, _], _ => rfl) fun cdv A outer s H vs Q E fc h => ?_⟩
  obtain ⟨S, ⟨⟨xs⟩, k, _⟩, sb, ⟨vx, _, rfl, hx, vk, _, rfl, hk, rfl⟩, ⟨k0, k1⟩, q⟩ := h
  have hx : rep G.K G.mg S vx (Scr.mk xs) := hx
  have k0 : 0 ≤ k := k0
  have k1 : k < 1000 := k1
  have hk : vk = .int k := hk
  subst hk
  have rk : ∀ {S : Hp}, rep G.K G.mg S (.int k) k := rfl
  let c : Int := if k < xs.length then (atI xs k).getD 0 else 0
  have tail : ∀ S1 H1, At S H S1 H1 → WSs (cxF G N__law_stream "_law_stream" (defScope s__law_stream) f cdv A outer s H E) ((defBody s__law_stream).drop 2) { nx := fun _ H' => Q .non H', rt := Q } ((start N__law_stream [vx, .int k]).set 2 (some (.int c))) H1 := fun S1 H1 b1 => by
    refine ws_set (i := 3) (r := fun v S' => rep G.K G.mg S' v (max c (-1 - c))) fc.nd (ev_max2 fc.calm b.max (ev_var (y := c) 2 rfl) (ev_sub (ev_neg ev_int) (ev_var (y := c) 2 rfl))) b1.i fun v2 S2 H2 a2 r2 => ?_
    generalize hz : max c (-1 - c) = z at r2
    have r2 : v2 = .int z := r2
    subst r2
    refine ws_set (i := 4) (r := fun v S' => rep G.K G.mg S' v ((z % 2147483629 + 7919 * k * k + 31 * k + 17) * 48271 % 2147483647)) fc.nd
      (ev_mod (ev_mul (ev_add (ev_add (ev_add (ev_mod (ev_var (y := z) 3 rfl) ev_int (by decide)) (ev_mul (ev_mul ev_int (ev_var (y := k) 1 rk) (.inl (by decide))) (ev_var (y := k) 1 rk) (.inr ⟨by omega, by omega⟩))) (ev_mul ev_int (ev_var (y := k) 1 rk) (.inl (by decide)))) ev_int) ev_int (.inr (by decide))) ev_int (by decide)) a2.i fun v3 S3 H3 a3 r3 => ?_
    have r3 : v3 = .int ((z % 2147483629 + 7919 * k * k + 31 * k + 17) * 48271 % 2147483647) := r3
    subst r3
    have cz : CMul z (if decide ((10 : Int) ^ 18 ≤ z) = true then (1 : Int) else 0) := .inr (by split <;> decide)
    refine WSs.seq (WS.of (ps_ret peS) ((en_two (S := S3) (ev_mul (ev_var (y := z) 3 rfl) (ev_intB b.int (ev_cmp (ec_ge (ev_var (y := z) 3 rfl) (ev_pow ev_int ev_int ⟨by decide, by decide, by decide⟩)))) cz) (ev_var (y := (z % 2147483629 + 7919 * k * k + 31 * k + 17) * 48271 % 2147483647) 4 rfl)) S3 H3 (Ext.refl _) a3.i _ fun l S4 H4 ys a4 n1 n2 h4 r4 z4 => ?_))
    have eq : lawStream xs k = [z * (if decide ((10 : Int) ^ 18 ≤ z) = true then 1 else 0), (z % 2147483629 + 7919 * k * k + 31 * k + 17) * 48271 % 2147483647] := by rw [← hz]; rfl
    have b4 := ((b1.trans a2).trans a3)
    refine q l S4 H4 ys (b4.trans a4) (b4.non n1) n2 h4 ?_ ?_
    · show Reps G.K G.mg S4 ys (lawStream xs k)
      rw [eq]; exact r4
    · show (lawStream xs k).length ≤ sizeLine
      rw [eq]; exact z4
  refine ws_set (i := 2) (r := fun v S' => rep G.K G.mg S' v (0 : Int)) fc.nd ev_int sb fun v1 S1 H1 a1 r1 => ?_
  have r1 : v1 = .int 0 := r1
  subst r1
  refine ws_if (et_cmp (ec_lt (ev_var (y := k) 1 rk) (ev_lenS b.len (ev_var 0 (rep_ext hx a1.s))))) a1.i fun S2 H2 a2 => ?_
  cases hl : decide (k < (xs.length : Int)) with
  | true =>
    have hl := of_decide_eq_true hl
    have hy : ∃ y, atI xs k = some y := by
      unfold atI ixN
      rw [if_pos k0, if_pos hl]
      exact ⟨_, List.getElem?_eq_getElem (by omega)⟩
    obtain ⟨y, hy⟩ := hy
    refine ws_set (i := 2) (r := fun v S' => rep G.K G.mg S' v y) fc.nd (ev_itemS (ev_var 0 (rep_ext hx (a1.trans a2).s)) (ev_var (y := k) 1 rk) hy) a2.i fun v3 S3 H3 a3 r3 => ?_
    have r3 : v3 = .int y := r3
    subst r3
    refine WSs.nil ?_
    have ec : c = y := by show (if k < xs.length then (atI xs k).getD 0 else 0) = y; rw [if_pos hl, hy]; rfl
    have t := tail S3 H3 ((a1.trans a2).trans a3)
    rw [ec] at t
    exact t
  | false =>
    have hl := of_decide_eq_false hl
    refine WSs.nil ?_
    have ec : c = 0 := if_neg hl
    have t := tail S2 H2 (a1.trans a2)
    rw [ec] at t
    exact t
end
end Pv
namespace Pv
open PySem PySem.Spec PyProof.Rows L2 Tl
section
variable {G : Gx}
/-! #### Plan's properties, len, ==, full -/
instance : IsIns Plan where
  cls := "Plan"
  ins := fun ⟨a, dx, vl, vd, h1, h2, _, _⟩ => ⟨a, dx, _, h1, h2⟩
theorem plan_ins {K mg S v} {p : Plan} (h : rep K mg S v p) : ∃ a dx fs, v = .ref a ∧ S a = some (.ins (clsAt mg "Plan") dx fs) := IsIns.ins h
theorem plan_row {K mg S v} {p : Plan} (h : rep K mg S v p) : ∃ a dx fs w, v = .ref a ∧ S a = some (.ins (clsAt mg "Plan") dx fs) ∧ fs.lookup ("row_count" : Str) = some w ∧ rep K mg S w p.rows := by
  obtain ⟨a, dx, vl, vd, h1, h2, h3, h4⟩ := h
  exact ⟨a, dx, _, _, h1, h2, rfl, rfl⟩
theorem plan_col {K mg S v} {p : Plan} (h : rep K mg S v p) : ∃ a dx fs w, v = .ref a ∧ S a = some (.ins (clsAt mg "Plan") dx fs) ∧ fs.lookup ("column_count" : Str) = some w ∧ rep K mg S w p.cols := by
  obtain ⟨a, dx, vl, vd, h1, h2, h3, h4⟩ := h
  exact ⟨a, dx, _, _, h1, h2, rfl, rfl⟩
theorem plan_own {K mg S v} {p : Plan} (h : rep K mg S v p) : ∃ a dx fs w, v = .ref a ∧ S a = some (.ins (clsAt mg "Plan") dx fs) ∧ fs.lookup ("own_cells" : Str) = some w ∧ rep K mg S w p.cells := by
  obtain ⟨a, dx, vl, vd, h1, h2, h3, h4⟩ := h
  exact ⟨a, dx, _, _, h1, h2, rfl, h3⟩
theorem plan_len {K mg S v} {p : Plan} (h : rep K mg S v p) : p.cells.length ≤ sizeLine := by
  obtain ⟨a, dx, vl, vd, h1, h2, h3, h4⟩ := h
  exact list_len h3
abbrev P_Plan_rows (G : Gx) := Dp G "Plan" "rows" 1 (spF G (fun _ => True) fun x : Plan × Unit => x.1.rows)
abbrev P_Plan_columns (G : Gx) := Dp G "Plan" "columns" 1 (spF G (fun _ => True) fun x : Plan × Unit => x.1.cols)
abbrev P_Plan_cells (G : Gx) := Dp G "Plan" "cells" 1 (spN G (fun _ => True) fun x : Plan × Unit => x.1.cells)
abbrev P_PlanD_lenD (G : Gx) := Do G "Plan" "__len__" ["self"] 1 (spF G (fun _ => True) fun x : Plan × Unit => (x.1.cells.length : Int))
def planEq (p : Plan) : Plan ⊕ D → Bool
  | .inl q => decide (p = q)
  | .inr _ => false
abbrev P_PlanD_eqD (G : Gx) := Do G "Plan" "__eq__" ["self", "other"] 1 (spF G (fun _ => True) fun x : Plan × (Plan ⊕ D) × Unit => planEq x.1 x.2.1)
theorem sc_Plan_rows : FnScope ["self"] ["self"] (defScope s_Plan_rows) := ⟨rfl, rfl, rfl, by decide +kernel, rfl, by decide +kernel, by decide +kernel⟩
theorem ok_Plan_rows {f p : Addr} {fd : FuncData} (F : FnD G "rows" "Plan.rows" s_Plan_rows f fd) (hm : PropOf G.K (clsAt G.mg "Plan") "rows" p f) (pc : PlanCl G) : P_Plan_rows G := by
  refine ⟨pc.cl, p, f, hm, Fn.mk_ F sc_Plan_rows (spF_len rfl) (fun _ _ _ _ _ _ us hl => match us, hl with | [_], _ => rfl) fun cdv A outer s H vs Q E fc h => ?_⟩
  obtain ⟨S, ⟨g, _⟩, sb, ⟨v, _, rfl, hv, rfl⟩, _, q⟩ := h
  exact ws_ret (ev_fld pc.cl pc.n1 (ev_var 0 hv) fun _ _ => plan_row) sb q
theorem sc_Plan_columns : FnScope ["self"] ["self"] (defScope s_Plan_columns) := ⟨rfl, rfl, rfl, by decide +kernel, rfl, by decide +kernel, by decide +kernel⟩
theorem ok_Plan_columns {f p : Addr} {fd : FuncData} (F : FnD G "columns" "Plan.columns" s_Plan_columns f fd) (hm : PropOf G.K (clsAt G.mg "Plan") "columns" p f) (pc : PlanCl G) : P_Plan_columns G := by
  refine ⟨pc.cl, p, f, hm, Fn.mk_ F sc_Plan_columns (spF_len rfl) (fun _ _ _ _ _ _ us hl => match us, hl with | [_], _ => rfl) fun cdv A outer s H vs Q E fc h => ?_⟩
  obtain ⟨S, ⟨g, _⟩, sb, ⟨v, _, rfl, hv, rfl⟩, _, q⟩ := h
  exact ws_ret (ev_fld pc.cl pc.n2 (ev_var 0 hv) fun _ _ => plan_col) sb q
theorem sc_Plan_cells : FnScope ["self"] ["self"] (defScope s_Plan_cells) := ⟨rfl, rfl, rfl, by decide +kernel, rfl, by decide +kernel, by decide +kernel⟩
theorem ok_Plan_cells {f p : Addr} {fd : FuncData} (F : FnD G "cells" "Plan.cells" s_Plan_cells f fd) (hm : PropOf G.K (clsAt G.mg "Plan") "cells" p f) (pc : PlanCl G) (b : Bf G.mg) : P_Plan_cells G := by
  refine ⟨pc.cl, p, f, hm, Fn.mk_ F sc_Plan_cells (spN_len rfl) (fun _ _ _ _ _ _ us hl => match us, hl with | [_], _ => rfl) fun cdv A outer s H vs Q E fc h => ?_⟩
  obtain ⟨S, ⟨g, _⟩, sb, ⟨v, _, rfl, hv, rfl⟩, _, q⟩ := h
  exact WSs.seq (WS.of (ps_ret peS) ((en_list b.list (ev_fld pc.cl pc.n3 (ev_var 0 hv) fun _ _ => plan_own)) S H (Ext.refl S) sb _ fun l S2 H2 ys a n1 n2 h2 r2 z => q l S2 H2 ys a n1 n2 h2 r2 z))
theorem sc_PlanD_lenD : FnScope ["self"] ["self"] (defScope s_PlanD_lenD) := ⟨rfl, rfl, rfl, by decide +kernel, rfl, by decide +kernel, by decide +kernel⟩
theorem ok_PlanD_lenD {f : Addr} {fd : FuncData} (F : FnD G "__len__" "Plan.__len__" s_PlanD_lenD f fd) (hm : OwnM G.K (clsAt G.mg "Plan") "__len__" f) (pc : PlanCl G) (b : Bf G.mg) : P_PlanD_lenD G := by
  refine ⟨f, hm, Fn.mk_ F sc_PlanD_lenD (spF_len rfl) (fun _ _ _ _ _ _ us hl => match us, hl with | [_], _ => rfl) fun cdv A outer s H vs Q E fc h => ?_⟩
  obtain ⟨S, ⟨g, _⟩, sb, ⟨v, _, rfl, hv, rfl⟩, _, q⟩ := h
  exact ws_ret (ev_len b.len (ev_fld pc.cl pc.n3 (ev_var 0 hv) fun _ _ => plan_own)) sb q
theorem sc_PlanD_eqD : FnScope ["self", "other"] ["self", "other"] (defScope s_PlanD_eqD) := ⟨rfl, rfl, rfl, by decide +kernel, rfl, by decide +kernel, by decide +kernel⟩
theorem ok_PlanD_eqD {f : Addr} {fd : FuncData} (F : FnD G "__eq__" "Plan.__eq__" s_PlanD_eqD f fd) (hm : OwnM G.K (clsAt G.mg "Plan") "__eq__" f) (pc : PlanCl G) (ct : ClsT G.K (clsAt G.mg "Plan")) (hp : G.mg "Plan" = some (.ref (clsAt G.mg "Plan"))) (b : Bf G.mg) : P_PlanD_eqD G := by
  refine ⟨f, hm, Fn.mk_ F sc_PlanD_eqD (spF_len rfl) (fun _ _ _ _ _ _ us hl => match us, hl with | [_, _], _ => rfl) fun cdv A outer s H vs Q E fc h => ?_⟩
  obtain ⟨S, ⟨x, y, _⟩, sb, ⟨v, _, rfl, hv, u, _, rfl, hu, rfl⟩, _, q⟩ := h
  refine ws_if (et_not (et_val (ev_isiC (α := Plan) ct hp b.isinstance (ev_var (y := y) 1 hu)))) sb fun S1 H1 a1 => ?_
  cases y with
  | inr d => exact ws_ret ev_bool a1.sub fun w S'' H'' a2 r => q w S'' H'' (a1.forget.trans a2) r
  | inl y =>
    refine WSs.nil ?_
    have hu : rep G.K G.mg S u y := hu
    have b1 : At S H S H1 := a1.forget
    refine ws_if (et_w (ew_or (et_cmp (ec_ne (ev_fld pc.cl pc.n1 (ev_var 0 hv) fun _ _ => plan_row) (ev_fld pc.cl pc.n1 (ev_var 1 hu) fun _ _ => plan_row))) fun _ =>
      ew_or1 (et_cmp (ec_ne (ev_fld pc.cl pc.n2 (ev_var 0 hv) fun _ _ => plan_col) (ev_fld pc.cl pc.n2 (ev_var 1 hu) fun _ _ => plan_col))))) b1.i fun S2 H2 a2 => ?_
    have b2 : At S H S H2 := b1.trans a2.forget
    have e : planEq x (.inl y) = (decide (x.rows = y.rows) && (decide (x.cols = y.cols) && decide (x.cells = y.cells))) := by
      obtain ⟨r, c, l⟩ := x
      obtain ⟨r', c', l'⟩ := y
      show decide (Plan.mk r c l = Plan.mk r' c' l') = _
      rw [Bool.eq_iff_iff]
      simp [Plan.mk.injEq]
    cases hb : (!decide (x.rows = y.rows) || !decide (x.cols = y.cols)) with
    | true =>
      refine ws_ret ev_bool b2.i fun w S3 H3 a3 r3 => q w S3 H3 (b2.trans a3) ?_
      show rep G.K G.mg S3 w (planEq x (.inl y))
      have e2 : planEq x (.inl y) = false := by
        rw [e]
        rcases Bool.or_eq_true_iff.mp hb with h | h
        · rw [show decide (x.rows = y.rows) = false by simpa using h]; rfl
        · rw [show decide (x.cols = y.cols) = false by simpa using h]; simp
      rw [e2]; exact r3
    | false =>
      refine WSs.nil ?_
      refine ws_ret (ev_cmp (ec_eqD fc.hr.units (ev_fld pc.cl pc.n3 (ev_var 0 hv) fun _ _ => plan_own) (ev_fld pc.cl pc.n3 (ev_var 1 hu) fun _ _ => plan_own))) b2.i fun w S3 H3 a3 r3 => q w S3 H3 (b2.trans a3) ?_
      show rep G.K G.mg S3 w (planEq x (.inl y))
      have e2 : planEq x (.inl y) = decide (x.cells = y.cells) := by
        rw [e]
        obtain ⟨h1, h2⟩ := Bool.or_eq_false_iff.mp hb
        rw [show decide (x.rows = y.rows) = true by simpa using h1, show decide (x.cols = y.cols) = true by simpa using h2]; rfl
      rw [e2]; exact r3
/-! #### lists of pairs as plain values -/
def cellD (c : Int × Int) : D := .tup [.int c.1, .int c.2]
theorem to_cellD (c : Int × Int) : toCell (cellD c) = c := rfl
theorem cellsD_rep {K : PySem.W.Frag} {mg : Str → Option Value} {S : Hp} {vs : List V} {cs : List (Int × Int)} (h : Reps K mg S vs cs) : D.reps S (cs.map cellD) vs := by
  induction h with
  | nil => rfl
  | @cons v vs x xs h t ih =>
    obtain ⟨t', a, b, h1, h2, h3, h4⟩ := h
    exact ⟨v, vs, rfl, ⟨t', [a, b], h1, h2, a, [b], rfl, h3, b, [], rfl, h4, rfl⟩, ih⟩
theorem cellsD {K : PySem.W.Frag} {mg : Str → Option Value} {S : Hp} {v : V} {cs : List (Int × Int)} (h : rep K mg S v cs) : rep K mg S v (D.lst (cs.map cellD)) := by
  obtain ⟨a, ys, h1, h2, h3, h4⟩ := h
  exact ⟨a, ys, h1, h2, cellsD_rep h3, by rw [List.length_map]; exact h4⟩
theorem ev_cellsD {X : Cx} {e : Expr} {σ : L2.St} {S : Hp} {cs : List (Int × Int)} (h : Ev X e σ S cs) : Ev X e σ S (D.lst (cs.map cellD)) := fun S1 H1 e1 s Q q => h S1 H1 e1 s Q fun v S2 H2 a2 r2 => q v S2 H2 a2 (cellsD r2)
theorem ev_intD {X : Cx} {e : Expr} {σ : L2.St} {S : Hp} {i : Int} (h : Ev X e σ S i) : Ev X e σ S (D.int i) := fun S1 H1 e1 s Q q => h S1 H1 e1 s Q fun v S2 H2 a2 r2 => q v S2 H2 a2 r2
def upto (n : Int) : List Int := (List.range n.toNat).map fun (k : Nat) => (k : Int)
def gridCells (r c : Int) : List (Int × Int) := (upto r).flatMap fun a => (upto c).map fun b => (a, b)
theorem mem_upto {n k : Int} : k ∈ upto n ↔ 0 ≤ k ∧ k < n := by
  unfold upto
  simp only [List.mem_map, List.mem_range]
  constructor
  · rintro ⟨a, h, rfl⟩; omega
  · rintro ⟨h1, h2⟩; exact ⟨k.toNat, by omega, by omega⟩
theorem upto_len {n : Int} : (upto n).length = n.toNat := by simp [upto]
theorem mem_grid {r c : Int} {p : Int × Int} : p ∈ gridCells r c ↔ (0 ≤ p.1 ∧ p.1 < r) ∧ 0 ≤ p.2 ∧ p.2 < c := by
  unfold gridCells
  simp only [List.mem_flatMap, List.mem_map, mem_upto]
  constructor
  · rintro ⟨a, ha, b, hb, rfl⟩; exact ⟨ha, hb⟩
  · rintro ⟨ha, hb⟩; exact ⟨p.1, ha, p.2, hb, rfl⟩
theorem flat_len {α β : Type} {f : α → List β} {n : Nat} : ∀ l : List α, (∀ a ∈ l, (f a).length = n) → (l.flatMap f).length = l.length * n
  | [], _ => by simp
  | a :: l, h => by
    rw [List.flatMap_cons, List.length_append, h a List.mem_cons_self, flat_len l fun b hb => h b (List.mem_cons_of_mem _ hb), List.length_cons, Nat.succ_mul]
    omega
theorem grid_len {r c : Int} : (gridCells r c).length = r.toNat * c.toNat := by
  unfold gridCells
  rw [flat_len (n := c.toNat) _ (fun a _ => by rw [List.length_map, upto_len]), upto_len]
theorem place_of {r c : Int} {p : Int × Int} (h : (0 ≤ p.1 ∧ p.1 < r) ∧ 0 ≤ p.2 ∧ p.2 < c) : isPlace ⟨r, c⟩ (cellD p) = true := by
  show (isNumber (.int p.1) 0 (r - 1) && isNumber (.int p.2) 0 (c - 1)) = true
  simp only [isNumber, Bool.and_eq_true, decide_eq_true_eq]
  omega
/-- what Plan gives for sizes and cells that are right -/
theorem init_ok {r c : Int} {cs : List (Int × Int)} (hr : 1 ≤ r ∧ r ≤ 30) (hc : 1 ≤ c ∧ c ≤ 30) (h : ∀ p ∈ cs, (0 ≤ p.1 ∧ p.1 < r) ∧ 0 ≤ p.2 ∧ p.2 < c) : planInit (.int r) (.int c) (.lst (cs.map cellD)) = .ok ⟨r, c, norm cs⟩ := by
  have e : (cs.map cellD).map toCell = cs := by rw [List.map_map]; exact (List.map_congr_left fun x _ => to_cellD x).trans (List.map_id _)
  have h1 : (isNumber (.int r) 1 30 && (isNumber (.int c) 1 30 && isList (.lst (cs.map cellD)))) = true := by
    simp only [isNumber, isList, Bool.and_eq_true, decide_eq_true_eq, and_true]
    omega
  have h2 : (cs.map cellD).all (isPlace ⟨r, c⟩) = true := by
    rw [List.all_map]
    exact List.all_eq_true.mpr fun p hp => place_of (h p hp)
  unfold planInit
  rw [if_pos h1]
  show (if ((cs.map cellD).all (isPlace ⟨r, c⟩)) = true then Except.ok (Plan.mk r c (norm ((cs.map cellD).map toCell))) else _) = _
  rw [if_pos h2, e]
def planFull (r c : D) : Except Exn Plan := if (isNumber r 1 30 && isNumber c 1 30) = true then .ok ⟨intOf r, intOf c, norm (gridCells (intOf r) (intOf c))⟩ else .error (.plain "InvalidPlan")
abbrev P_Plan_full (G : Gx) := Dk G "Plan" "full" ["cls", "rows", "columns"] 6 (spX G (fun _ => True) fun x : ClsA "Plan" × D × D × Unit => planFull x.2.1 x.2.2.1)
abbrev N_Plan_full : List Str := ["cls", "rows", "columns", "row", "column"]
theorem sc_Plan_full : FnScope N_Plan_full ["cls", "rows", "columns"] (defScope s_Plan_full) := ⟨rfl, rfl, rfl, by decide +kernel, rfl, by decide +kernel, by decide +kernel⟩
theorem ok_Plan_full {f p : Addr} {fd : FuncData} (F : FnD G "full" "Plan.full" s_Plan_full f fd) (cr : ClX.CRead G.K (clsAt G.mg "Plan") (.type "type")) (cm : ClX.CMet G.K (clsAt G.mg "Plan") (.type "type") "full" p f) (ms : ∃ t, G.mg "MAX_SIZE" = some (.int 30 t)) (b : Bf G.mg) (xc : Xc G "InvalidPlan") (d1 : P_is_number G) (d2 : P_Plan G) : P_Plan_full G := by
  refine ⟨d2.mg, p, f, cr, cm, Fn.mk_ F sc_Plan_full (spX_len rfl) (fun _ _ _ _ _ _ us hl => match us, hl with | [_, _, _], _ => rfl) fun cdv A outer s H vs Q E fc h => ?_⟩
  obtain ⟨S, ⟨_, dr, dc, _⟩, sb, ⟨vk, _, rfl, hk, vr, _, rfl, hr, vc, _, rfl, hc, rfl⟩, _, kok, kerr⟩ := h
  have hk : vk = .ref (clsAt G.mg "Plan") := hk
  subst hk
  refine ws_if (et_w (ew_or (et_not (et_val (ev_call fc.on d1 (fc.hr.mono (by decide)) (eas_cons (ev_var 1 hr) (eas_cons ev_int (eas_cons (ev_gint ms) eas_nil))) trivial))) fun _ =>
    ew_or1 (et_not (et_val (ev_call fc.on d1 (fc.hr.mono (by decide)) (eas_cons (ev_var 2 hc) (eas_cons ev_int (eas_cons (ev_gint ms) eas_nil))) trivial))))) sb fun S1 H1 a1 => ?_
  have b1 := a1.forget
  show if (!isNumber dr 1 30 || !isNumber dc 1 30) = true then _ else _
  rw [show (!isNumber dr 1 30 || !isNumber dc 1 30) = !(isNumber dr 1 30 && isNumber dc 1 30) by cases isNumber dr 1 30 <;> cases isNumber dc 1 30 <;> rfl]
  cases ok1 : (isNumber dr 1 30 && isNumber dc 1 30) with
  | false => exact ws_raise fc.on fc.calm fc.tk xc (kerr _ (by show planFull dr dc = _; unfold planFull; rw [if_neg (by rw [ok1]; simp)]) _ _ S H1 b1 ⟨rfl, rfl⟩)
  | true =>
    obtain ⟨k1, k2⟩ := Bool.and_eq_true_iff.mp ok1
    obtain ⟨r, rfl⟩ : ∃ r, dr = .int r := by cases dr <;> first | exact ⟨_, rfl⟩ | cases k1
    obtain ⟨c, rfl⟩ : ∃ c, dc = .int c := by cases dc <;> first | exact ⟨_, rfl⟩ | cases k2
    have r1 : 1 ≤ r ∧ r ≤ 30 := by simpa [isNumber] using k1
    have c1 : 1 ≤ c ∧ c ≤ 30 := by simpa [isNumber] using k2
    have hr : ∀ {S : Hp}, rep G.K G.mg S vr r := fun {S} => (hr : vr = .int r)
    have hc : ∀ {S : Hp}, rep G.K G.mg S vc c := fun {S} => (hc : vc = .int c)
    refine WSs.nil ?_
    have gl : ((upto r).flatMap fun a => (upto c).map fun b => (a, b)).length ≤ sizeLine := by
      have := grid_len (r := r) (c := c)
      unfold gridCells at this
      rw [this]
      have e1 : r.toNat ≤ 30 := by omega
      have e2 : c.toNat ≤ 30 := by omega
      have := Nat.mul_le_mul e1 e2
      have hs : sizeLine = 16777216 := sizeLine_eq
      omega
    refine ws_ret (ev_makeL (y := (D.int r, D.int c, D.lst ((gridCells r c).map cellD), ())) (z := ⟨r, c, norm (gridCells r c)⟩) 0 fc.on d2 fc.hr rfl (eas_cons (ev_intD (ev_var 1 hr)) (eas_cons (ev_intD (ev_var 2 hc)) (eas_cons (ev_cellsD
      (ev_lc2 (x := "row") (y := "column") (xs := upto r) (ys := fun _ => upto c) (f := fun a b => (a, b)) 3 4 fc.calm fc.nd (ei_rng1 b.range (ev_var 1 hr) (by omega) (by omega)) gl (blkOk_by (N := N_Plan_full) (sc := defScope s_Plan_full) (by decide +kernel))
        (fun x v S' hx ex rv => fun s' H' C' cl' fp' => ei_rng1 b.range (ev_var 2 hc) (by omega) (by omega))
        (fun x y v w S' hx hy ex rv rw' => fun s' H' C' cl' fp' => ev_tup2 (ev_var 3 rv) (ev_var 4 rw')))) eas_nil))) trivial
      (init_ok r1 c1 fun p hp => mem_grid.mp hp)) b1.i fun w S3 H3 a3 r3 => kok _ ?_ w S3 H3 (b1.trans a3) r3
    show planFull (.int r) (.int c) = _
    unfold planFull
    rw [if_pos ok1]
    rfl
end
end Pv
namespace Pv
open PySem PySem.Spec PyProof.Rows L2 Tl
section
variable {G : Gx}
/-! #### the law's helpers -/
def planBad (r c l : D) : Bool := match planInit r c l with
  | .ok _ => false
  | .error _ => true
theorem init_err {r c l : D} {ex : Exn} (h : planInit r c l = .error ex) : ex = .plain "InvalidPlan" := by
  unfold planInit at h
  split at h
  · split at h
    · cases h
    · cases h; rfl
  · cases h; rfl
def fullBad (r c : D) : Bool := match planFull r c with
  | .ok _ => false
  | .error _ => true
theorem full_err {r c : D} {ex : Exn} (h : planFull r c = .error ex) : ex = .plain "InvalidPlan" := by
  unfold planFull at h
  split at h
  · cases h
  · cases h; rfl
abbrev P__law_raises (G : Gx) := Df G "_law_raises" ["rows", "columns", "cells"] 6 (spF G (fun _ => True) fun x : D × D × D × Unit => planBad x.1 x.2.1 x.2.2.1)
abbrev P__law_full_raises (G : Gx) := Df G "_law_full_raises" ["rows", "columns"] 7 (spF G (fun _ => True) fun x : D × D × Unit => fullBad x.1 x.2.1)
abbrev P__law_invalid_holds (G : Gx) := Df G "_law_invalid_holds" ["rows", "columns"] 8 (spF G (fun x : Int × Int × Unit => (1 ≤ x.1 ∧ x.1 ≤ 30) ∧ 1 ≤ x.2.1 ∧ x.2.1 ≤ 30) fun _ => true)
/-- InvalidPlan's class -/
structure XPlan (G : Gx) : Prop where
  x : Xc G "InvalidPlan"
  t : XcT G "InvalidPlan"
  cube : G.mg "CubeError" = some (.ref (clsAt G.mg "CubeError"))
  up : PySem.W.kitOne G.K (.ref (clsAt G.mg "InvalidPlan")) (.ref (clsAt G.mg "CubeError")) = some true
  ve : PySem.W.kitOne G.K (.ref (clsAt G.mg "InvalidPlan")) (.type "ValueError") = some true
  nv : G.mg "ValueError" = none
abbrev N__law_raises : List Str := ["rows", "columns", "cells", "e"]
theorem sc__law_raises : FnScope N__law_raises ["rows", "columns", "cells"] (defScope s__law_raises) := ⟨rfl, rfl, rfl, by decide +kernel, rfl, by decide +kernel, by decide +kernel⟩
theorem len4 {σ : L2.St} (h : σ.length = 4) (v : Option V) : (σ.set 3 v)[3]? = some v := by
  rw [List.getElem?_set_self]
  omega
theorem ok__law_raises {f : Addr} {fd : FuncData} (F : FnD G "_law_raises" "_law_raises" s__law_raises f fd) (hm : G.mg "_law_raises" = some (.ref f)) (b : Bf G.mg) (x : XPlan G) (d1 : P_Plan G) : P__law_raises G := by
  refine ⟨f, hm, Fn.mk_ F sc__law_raises (spF_len rfl) (fun _ _ _ _ _ _ us hl => match us, hl with | [_, _, _], _ => rfl) fun cdv A outer s H vs Q E fc h => ?_⟩
  obtain ⟨S, ⟨dr, dc, dl, _⟩, sb, ⟨vr, _, rfl, hr, vc, _, rfl, hc, vl, _, rfl, hl, rfl⟩, _, q⟩ := h
  refine ws_tryA (c := .ref (clsAt G.mg "InvalidPlan")) 3 fc.st fc.ff fc.nd ⟨rfl, rfl, .inl x.x.mg⟩ fc.tk fun pn xe tk po => ?_
  cases hz : planInit dr dc dl with
  | ok z =>
    refine ws_expr (ev_make (z := z) ⟨rfl, rfl, rfl, rfl, rfl⟩ d1 fc.hr (eas_cons (ev_var 0 hr) (eas_cons (ev_var 1 hc) (eas_cons (ev_var 2 hl) eas_nil))) trivial hz) sb fun v S1 H1 a1 r1 => ?_
    refine WSs.nil ?_
    refine ws_ret ev_bool a1.sub fun w S2 H2 a2 r2 => q w S2 H2 (a1.forget.trans a2) ?_
    show rep G.K G.mg S2 w (planBad dr dc dl)
    unfold planBad
    rw [hz]; exact r2
  | error ex =>
    have ee := init_err hz
    subst ee
    refine ws_exprE (ee_make ⟨rfl, rfl, rfl, rfl, rfl⟩ tk d1 fc.hr (eas_cons (ev_var 0 hr) (eas_cons (ev_var 1 hc) (eas_cons (ev_var 2 hl) eas_nil))) trivial hz) sb fun cls d S1 H1 a1 ⟨e1, e2⟩ σ' hl' => ?_
    subst e1 e2
    refine ⟨true, x.t.exm, fun _ a ha oe pn hz1 hd => ?_, fun z => by cases z⟩
    refine ws_ret (ev_and (ev_isE 3 x.t.ec hz1 hd b.isinstance (len4 hl' _) x.cube x.up) fun _ => ev_one (ev_isET 3 x.t.ec hz1 hd b.isinstance (len4 hl' _) x.nv (by decide +kernel) x.ve)) a1.sub fun w S2 H2 a2 r2 => q w S2 H2 (a1.forget.trans a2) ?_
    show rep G.K G.mg S2 w (planBad dr dc dl)
    unfold planBad
    rw [hz]; exact r2
theorem sc__law_full_raises : FnScope ["rows", "columns"] ["rows", "columns"] (defScope s__law_full_raises) := ⟨rfl, rfl, rfl, by decide +kernel, rfl, by decide +kernel, by decide +kernel⟩
theorem ok__law_full_raises {f : Addr} {fd : FuncData} (F : FnD G "_law_full_raises" "_law_full_raises" s__law_full_raises f fd) (hm : G.mg "_law_full_raises" = some (.ref f)) (x : XPlan G) (d1 : P_Plan_full G) : P__law_full_raises G := by
  refine ⟨f, hm, Fn.mk_ F sc__law_full_raises (spF_len rfl) (fun _ _ _ _ _ _ us hl => match us, hl with | [_, _], _ => rfl) fun cdv A outer s H vs Q E fc h => ?_⟩
  obtain ⟨S, ⟨dr, dc, _⟩, sb, ⟨vr, _, rfl, hr, vc, _, rfl, hc, rfl⟩, _, q⟩ := h
  refine ws_tryO (c := .ref (clsAt G.mg "InvalidPlan")) fc.st fc.ff ⟨rfl, rfl, .inl x.x.mg⟩ fc.tk fun pn xe tk po => ?_
  cases hz : planFull dr dc with
  | ok z =>
    refine ws_expr (ev_cmX (z := z) ⟨rfl, rfl, rfl, rfl, rfl⟩ d1 fc.hr (eas_cons (ev_var 0 hr) (eas_cons (ev_var 1 hc) eas_nil)) trivial hz) sb fun v S1 H1 a1 r1 => ?_
    refine WSs.nil ?_
    refine ws_ret ev_bool a1.sub fun w S2 H2 a2 r2 => q w S2 H2 (a1.forget.trans a2) ?_
    show rep G.K G.mg S2 w (fullBad dr dc)
    unfold fullBad
    rw [hz]; exact r2
  | error ex =>
    have ee := full_err hz
    subst ee
    refine ws_exprE (ee_cmX ⟨rfl, rfl, rfl, rfl, rfl⟩ tk d1 fc.hr (eas_cons (ev_var 0 hr) (eas_cons (ev_var 1 hc) eas_nil)) trivial hz) sb fun cls d S1 H1 a1 ⟨e1, e2⟩ σ' hl' => ?_
    subst e1 e2
    refine ⟨true, x.t.exm, fun _ a ha oe pn hz1 hd => ?_, fun z => by cases z⟩
    refine ws_ret ev_bool a1.sub fun w S2 H2 a2 r2 => q w S2 H2 (a1.forget.trans a2) ?_
    show rep G.K G.mg S2 w (fullBad dr dc)
    unfold fullBad
    rw [hz]; exact r2
end
end Pv
namespace Pv
open PySem PySem.Spec PyProof.Rows L2 Tl
section
variable {G : Gx}
theorem bad_of {r c l : D} (h : (isNumber r 1 30 && (isNumber c 1 30 && isList l)) = false) : planBad r c l = true := by
  have e : planInit r c l = .error (.plain "InvalidPlan") := if_neg (by rw [h]; simp)
  unfold planBad
  rw [e]
theorem bad_row {r c l : D} (h : isNumber r 1 30 = false) : planBad r c l = true := bad_of (by rw [h]; rfl)
theorem bad_col {r c l : D} (h : isNumber c 1 30 = false) : planBad r c l = true := bad_of (by rw [h]; simp)
theorem bad_list {r c l : D} (h : isList l = false) : planBad r c l = true := bad_of (by rw [h]; simp)
theorem bad_cell {r c : Int} {ds : List D} (h : ds.all (isPlace ⟨r, c⟩) = false) : planBad (.int r) (.int c) (.lst ds) = true := by
  cases k : (isNumber (.int r) 1 30 && (isNumber (.int c) 1 30 && isList (.lst ds))) with
  | false => exact bad_of k
  | true =>
    have e : planInit (.int r) (.int c) (.lst ds) = .error (.plain "InvalidPlan") := (if_pos k).trans (if_neg (by show ¬ ds.all (isPlace ⟨r, c⟩) = true; rw [h]; simp))
    unfold planBad
    rw [e]
theorem bad_full {r c : D} (h : (isNumber r 1 30 && isNumber c 1 30) = false) : fullBad r c = true := by
  have e : planFull r c = .error (.plain "InvalidPlan") := if_neg (by rw [h]; simp)
  unfold fullBad
  rw [e]
def odds : List D := [.non, .bl true, .int 0, .int (-1), .int 31, .str "2", .lst [.int 2], .tup [.int 1]]
theorem odds_bad : ∀ d ∈ odds, isNumber d 1 30 = false := by
  intro d h
  simp only [odds, List.mem_cons, List.not_mem_nil, or_false] at h
  rcases h with rfl | rfl | rfl | rfl | rfl | rfl | rfl | rfl <;> rfl
def badCells (r c : Int) : List D := [.non, .int 5, .tup [], .tup [.int 0], .tup [.int 0, .int 0, .int 0], .lst [.int 0, .int 0], .tup [.bl true, .int 0], .tup [.int 0, .bl false], .tup [.int r, .int 0], .tup [.int 0, .int c], .tup [.int (-1), .int 0], .tup [.str "0", .int 0], .tup [.lst [.int 0], .int 0], .tup [.dct, .int 0]]
theorem badCells_bad {r c : Int} : ∀ d ∈ badCells r c, isPlace ⟨r, c⟩ d = false := by
  intro d h
  simp only [badCells, List.mem_cons, List.not_mem_nil, or_false] at h
  rcases h with rfl | rfl | rfl | rfl | rfl | rfl | rfl | rfl | rfl | rfl | rfl | rfl | rfl | rfl <;> simp [isPlace, isNumber] <;> omega
abbrev N__law_invalid_holds : List Str := ["rows", "columns", "odd", "cell"]
theorem sc__law_invalid_holds : FnScope N__law_invalid_holds ["rows", "columns"] (defScope s__law_invalid_holds) := ⟨rfl, rfl, rfl, by decide +kernel, rfl, by decide +kernel, by decide +kernel⟩
theorem ok__law_invalid_holds {f : Addr} {fd : FuncData} (F : FnD G "_law_invalid_holds" "_law_invalid_holds" s__law_invalid_holds f fd) (hm : G.mg "_law_invalid_holds" = some (.ref f)) (d1 : P__law_raises G) (d2 : P__law_full_raises G) : P__law_invalid_holds G := by
  refine ⟨f, hm, Fn.mk_ F sc__law_invalid_holds (spF_len rfl) (fun _ _ _ _ _ _ us hl => match us, hl with | [_, _], _ => rfl) fun cdv A outer s H vs Q E fc h => ?_⟩
  obtain ⟨S, ⟨r, c, _⟩, sb, ⟨vr, _, rfl, hr, vc, _, rfl, hc, rfl⟩, ⟨r1, c1⟩, q⟩ := h
  have hr : vr = .int r := hr
  have hc : vc = .int c := hc
  subst hr hc
  have rr : ∀ {S : Hp}, rep G.K G.mg S (.int r) (D.int r) := rfl
  have rc : ∀ {S : Hp}, rep G.K G.mg S (.int c) (D.int c) := rfl
  refine ws_for (xs := odds) 2 (fun k S' σ' => ∃ x y, σ' = [some (.int r), some (.int c), x, y]) fc.po fc.calm fc.nd
    (ei_list (ev_lstDs (ev_lstD (eds_cons ev_nonD (eds_cons ev_blD (eds_cons ev_iD (eds_cons (ev_toD (ev_neg ev_int)) (eds_cons ev_iD (eds_cons ev_sD (eds_cons (ev_lstD (eds_cons ev_iD eds_nil)) (eds_cons (ev_tupD (eds_cons ev_iD eds_nil)) eds_nil)))))))))))
    sb (fun S' H' a => ⟨_, _, rfl⟩) (fun k d v σ' S1 H1 hd a1 ⟨x, y, es⟩ rv N hN => ?_) (fun σ' S1 H1 a1 ⟨x, y, es⟩ => ?_) (fun e h => h)
  · subst es
    have hb := odds_bad d (List.mem_of_getElem? hd)
    refine ws_if (t := false) (et_w (EvW.to (ew_or (et_not (et_val (ev_call fc.on d1 (fc.hr.mono (by decide)) (eas_cons (ev_var 2 rv) (eas_cons (ev_var 1 rc) (eas_cons (ev_lstD eds_nil) eas_nil))) trivial))) fun _ =>
      ew_or1 (et_not (et_val (ev_call fc.on d1 (fc.hr.mono (by decide)) (eas_cons (ev_var 0 rr) (eas_cons (ev_var 2 rv) (eas_cons (ev_lstD eds_nil) eas_nil))) trivial)))) ?_)) a1.i fun S2 H2 a2 => ?_
    · show (!planBad d (.int c) (.lst []) || !planBad (.int r) d (.lst [])) = false
      rw [bad_row hb, bad_col hb]; rfl
    refine WSs.nil ?_
    have rv2 := rep_ext rv a2.s
    refine ws_if (t := false) (et_w (EvW.to (ew_or (et_not (et_val (ev_call fc.on d2 (fc.hr.mono (by decide)) (eas_cons (ev_var 2 rv2) (eas_cons (ev_var 1 rc) eas_nil)) trivial))) fun _ =>
      ew_or1 (et_not (et_val (ev_call fc.on d2 (fc.hr.mono (by decide)) (eas_cons (ev_var 0 rr) (eas_cons (ev_var 2 rv2) eas_nil)) trivial)))) ?_)) a2.i fun S3 H3 a3 => ?_
    · show (!fullBad d (.int c) || !fullBad (.int r) d) = false
      rw [bad_full (by rw [hb]; rfl), bad_full (by rw [hb]; simp)]; rfl
    refine WSs.nil (WSs.nil (hN _ S3 H3 (a2.trans a3) ⟨_, _, rfl⟩))
  · subst es
    have i0 : ∀ {pos j} {S : Hp} {σ : L2.St}, Ev (cxF G N__law_invalid_holds "_law_invalid_holds" (defScope s__law_invalid_holds) f cdv A outer s H E) (.Constant (.int 0) j pos) σ S (D.int 0) := fun {_ _ _ _} => ev_iD
    with_reducible refine ws_for (S := S1) (xs := badCells r c) (x := "cell") 3 (fun k S' σ' => ∃ x y, σ' = [some (.int r), some (.int c), x, y]) fc.po fc.calm fc.nd ?hi a1.i (fun S' H' a => ⟨_, _, rfl⟩) ?hb ?he (fun e h => h) ?hN ?lx ?fx ?hs
    case hN => rfl
    case lx => exact Or.inl rfl
    case fx => exact .inl rfl
    case hs => intro _; rfl
    case hi =>
      with_reducible refine ei_list (ev_lstDs ?_)
      with_reducible refine ev_lstD ?_ ?_
      · unfold badCells
        with_reducible refine eds_cons ?_ ?_
        · exact ev_nonD
        with_reducible refine eds_cons ?_ ?_
        · exact ev_iD
        with_reducible refine eds_cons ?_ ?_
        · exact ev_tupD eds_nil
        with_reducible refine eds_cons ?_ ?_
        · exact ev_tupD (eds_cons i0 eds_nil)
        with_reducible refine eds_cons ?_ ?_
        · exact ev_tupD (eds_cons i0 (eds_cons i0 (eds_cons i0 eds_nil)))
        with_reducible refine eds_cons ?_ ?_
        · exact ev_lstD (eds_cons i0 (eds_cons i0 eds_nil))
        with_reducible refine eds_cons ?_ ?_
        · exact ev_tupD (eds_cons ev_blD (eds_cons i0 eds_nil))
        with_reducible refine eds_cons ?_ ?_
        · exact ev_tupD (eds_cons i0 (eds_cons ev_blD eds_nil))
        with_reducible refine eds_cons ?_ ?_
        · exact ev_tupD (eds_cons (ev_var 0 rr) (eds_cons i0 eds_nil))
        with_reducible refine eds_cons ?_ ?_
        · exact ev_tupD (eds_cons i0 (eds_cons (ev_var 1 rc) eds_nil))
        with_reducible refine eds_cons ?_ ?_
        · exact ev_tupD (eds_cons (ev_toD (ev_neg ev_int)) (eds_cons i0 eds_nil))
        with_reducible refine eds_cons ?_ ?_
        · exact ev_tupD (eds_cons ev_sD (eds_cons i0 eds_nil))
        with_reducible refine eds_cons ?_ ?_
        · exact ev_tupD (eds_cons (ev_lstD (eds_cons i0 eds_nil)) (eds_cons i0 eds_nil))
        with_reducible refine eds_cons ?_ ?_
        · exact ev_tupD (eds_cons ev_dctD (eds_cons i0 eds_nil))
        exact eds_nil
      exact Nat.le_of_ble_eq_true rfl
    case hb =>
      intro k d v σ' S2 H2 hd a2 ⟨x, y, es⟩ rv N hN
      subst es
      have hb := badCells_bad d (List.mem_of_getElem? hd)
      refine ws_if (t := false) (EvB.to (et_not (et_val (ev_call fc.on d1 (fc.hr.mono (by decide)) (eas_cons (ev_var 0 rr) (eas_cons (ev_var 1 rc) (eas_cons (ev_lstD (eds_cons (ev_tupD (eds_cons i0 (eds_cons i0 eds_nil))) (eds_cons (ev_var 3 rv) eds_nil))) eas_nil))) trivial))) ?_) a2.i fun S3 H3 a3 => ?_
      · show (!planBad (.int r) (.int c) (.lst [.tup [.int 0, .int 0], d])) = false
        rw [bad_cell (by simp [hb])]; rfl
      refine WSs.nil (WSs.nil (hN _ S3 H3 a3 ⟨_, _, rfl⟩))
    case he =>
      intro σ' S2 H2 a2 ⟨x, y, es⟩
      subst es
      refine ws_ret (ev_and (ev_call fc.on d1 (fc.hr.mono (by decide)) (eas_cons (ev_var 0 rr) (eas_cons (ev_var 1 rc) (eas_cons ev_nonD eas_nil))) trivial) fun _ => ev_and (ev_call fc.on d1 (fc.hr.mono (by decide)) (eas_cons (ev_var 0 rr) (eas_cons (ev_var 1 rc) (eas_cons (ev_tupD (eds_cons (ev_tupD (eds_cons i0 (eds_cons i0 eds_nil))) eds_nil)) eas_nil))) trivial) fun _ =>
        ev_one (ev_call fc.on d1 (fc.hr.mono (by decide)) (eas_cons (ev_var 0 rr) (eas_cons (ev_var 1 rc) (eas_cons ev_dctD eas_nil))) trivial)) a2.i fun w S3 H3 a3 r3 => q w S3 H3 ((a1.trans a2).trans a3) ?_
      show rep G.K G.mg S3 w true
      have e : (planBad (.int r) (.int c) .non && (planBad (.int r) (.int c) (.tup [.tup [.int 0, .int 0]]) && planBad (.int r) (.int c) .dct)) = true := by
        rw [bad_list rfl, bad_list rfl, bad_list rfl]; rfl
      rw [← e]; exact r3
end
end Pv
namespace Pv
open PySem PySem.Spec PyProof.Rows L2 Tl
/-! #### lists of pairs, sorted -/
theorem le2_trans (a b c : Int × Int) (h : le2 a b = true) (k : le2 b c = true) : le2 a c = true := by
  simp only [le2, decide_eq_true_eq, Bool.or_eq_true, Bool.and_eq_true] at h k ⊢
  omega
theorem le2_total (a b : Int × Int) : (le2 a b || le2 b a) = true := by
  simp only [le2, decide_eq_true_eq, Bool.or_eq_true, Bool.and_eq_true]
  omega
theorem le2_anti {a b : Int × Int} (h : le2 a b = true) (k : le2 b a = true) : a = b := by
  simp only [le2, decide_eq_true_eq, Bool.or_eq_true, Bool.and_eq_true] at h k
  refine Prod.ext ?_ ?_ <;> omega
theorem sorted_uniq : ∀ {l m : List (Int × Int)}, l.Perm m → l.Pairwise (fun a b => le2 a b = true) → m.Pairwise (fun a b => le2 a b = true) → l = m
  | [], m, p, _, _ => (List.nil_perm.mp p).symm
  | a :: l, [], p, _, _ => by have := p.length_eq; simp at this
  | a :: l, b :: m, p, h, k => by
    have hab : a = b := by
      by_cases e : a = b
      · exact e
      · have ha : a ∈ b :: m := p.mem_iff.mp List.mem_cons_self
        have hb : b ∈ a :: l := p.mem_iff.mpr List.mem_cons_self
        have ha' : a ∈ m := (List.mem_cons.mp ha).resolve_left e
        have hb' : b ∈ l := (List.mem_cons.mp hb).resolve_left fun z => e z.symm
        exact le2_anti ((List.pairwise_cons.mp h).1 b hb') ((List.pairwise_cons.mp k).1 a ha')
    subst hab
    rw [sorted_uniq (p.cons_inv) (List.pairwise_cons.mp h).2 (List.pairwise_cons.mp k).2]
theorem sort_perm {l m : List (Int × Int)} (p : l.Perm m) : l.mergeSort le2 = m.mergeSort le2 :=
  sorted_uniq ((List.mergeSort_perm l le2).trans (p.trans (List.mergeSort_perm m le2).symm)) (List.pairwise_mergeSort le2_trans le2_total l) (List.pairwise_mergeSort le2_trans le2_total m)
theorem norm_nd {l : List (Int × Int)} (h : l.Nodup) : norm l = l.mergeSort le2 := by
  unfold norm
  rw [dictOf_id _ (by rw [List.map_map, show ((fun x : (Int × Int) × Bool => x.1) ∘ fun c => (c, true)) = id from rfl, List.map_id]; exact h), List.map_map, show ((fun x : (Int × Int) × Bool => x.1) ∘ fun c => (c, true)) = id from rfl, List.map_id]
theorem norm_sorted (l : List (Int × Int)) : (norm l).Pairwise (fun a b => le2 a b = true) := List.pairwise_mergeSort le2_trans le2_total _
theorem norm_rev (l : List (Int × Int)) : norm (norm l).reverse = norm l := by
  rw [norm_nd ((List.reverse_perm _).nodup_iff.mpr (norm_nodup l))]
  exact sorted_uniq ((List.mergeSort_perm _ _).trans (List.reverse_perm _)) (List.pairwise_mergeSort le2_trans le2_total _) (norm_sorted l)
theorem norm_norm (l : List (Int × Int)) : norm (norm l) = norm l := by
  rw [norm_nd (norm_nodup l)]
  exact sorted_uniq (List.mergeSort_perm _ _) (List.pairwise_mergeSort le2_trans le2_total _) (norm_sorted l)
/-- as many different ones of m as m has: all of them -/
theorem all_of {α : Type} [DecidableEq α] : ∀ {l m : List α}, l.Nodup → (∀ x ∈ l, x ∈ m) → m.length ≤ l.length → l.Perm m
  | [], m, _, _, h => by
    have : m = [] := List.length_eq_zero_iff.mp (Nat.le_zero.mp h)
    rw [this]
  | a :: l, m, nd, sb, h => by
    have ha := sb a List.mem_cons_self
    have p : m.Perm (a :: m.erase a) := List.perm_cons_erase ha
    refine (List.Perm.cons a (all_of (List.nodup_cons.mp nd).2 (fun x hx => ?_) ?_)).trans p.symm
    · have hx' := p.mem_iff.mp (sb x (List.mem_cons_of_mem _ hx))
      rcases List.mem_cons.mp hx' with e | e
      · subst e; exact absurd hx (List.nodup_cons.mp nd).1
      · exact e
    · have := p.length_eq
      rw [List.length_cons] at this h
      omega
theorem norm_len_nd {l : List (Int × Int)} (h : l.Nodup) : (norm l).length = l.length := by rw [norm_nd h, List.length_mergeSort]
/-- .. of m's cells all, exactly if they are as many -/
theorem norm_full {l m : List (Int × Int)} (hm : m.Nodup) (sb : ∀ x ∈ l, x ∈ m) : decide (norm l = norm m) = decide (((norm l).length : Int) = (m.length : Int)) := by
  rw [decide_eq_decide]
  constructor
  · intro h
    rw [h, norm_len_nd hm]
  · intro h
    have p : (norm l).Perm m := all_of (norm_nodup l) (fun x hx => sb x ((norm_mem l x).mp hx)) (by omega)
    rw [← norm_norm l, norm_nd (norm_nodup l), norm_nd hm]
    exact sort_perm p
/-- the law's list of first occurrences -/
def firsts (cs : List (Int × Int)) : List (Int × Int) := ((enumI cs).filter fun q => !decide (q.2 ∈ cut cs none (some q.1))).map fun q => q.2
theorem enumI_snoc {α : Type} (l : List α) (x : α) : enumI (l ++ [x]) = enumI l ++ [((l.length : Int), x)] := by
  unfold enumI
  rw [List.zipIdx_append]
  simp
theorem enumI_lt {α : Type} {l : List α} {q : Int × α} (h : q ∈ enumI l) : ∃ k : Nat, k < l.length ∧ q.1 = (k : Int) := by
  obtain ⟨i, hi⟩ := List.getElem?_of_mem h
  obtain ⟨y, hy, rfl⟩ := enumI_at hi
  exact ⟨i, (List.getElem?_eq_some_iff.mp hy).1, rfl⟩
theorem firsts_snoc (l : List (Int × Int)) (x : Int × Int) : firsts (l ++ [x]) = if x ∈ l then firsts l else firsts l ++ [x] := by
  unfold firsts
  have e1 : (enumI l).filter (fun q => !decide (q.2 ∈ cut (l ++ [x]) none (some q.1))) = (enumI l).filter (fun q => !decide (q.2 ∈ cut l none (some q.1))) := by
    apply List.filter_congr
    intro q hq
    obtain ⟨k, hk, e⟩ := enumI_lt hq
    rw [e, cut_to, cut_to, List.take_append_of_le_length (by omega)]
  rw [enumI_snoc, List.filter_append, e1, List.map_append]
  have e2 : cut (l ++ [x]) none (some (l.length : Int)) = l := by rw [cut_to, List.take_left']; rfl
  by_cases h : x ∈ l
  · rw [if_pos h, List.filter_cons_of_neg (by show ¬ (!decide (x ∈ cut (l ++ [x]) none (some (l.length : Int)))) = true; rw [e2]; simp [h])]
    simp
  · rw [if_neg h, List.filter_cons_of_pos (by show (!decide (x ∈ cut (l ++ [x]) none (some (l.length : Int)))) = true; rw [e2]; simp [h])]
    simp
theorem snoc_ind {α : Type} {P : List α → Prop} (h0 : P []) (hs : ∀ l x, P l → P (l ++ [x])) : ∀ l, P l := fun l => by
  have : ∀ l : List α, P l.reverse := fun l => by
    induction l with
    | nil => exact h0
    | cons x l ih => rw [List.reverse_cons]; exact hs _ _ ih
  have k := this l.reverse
  rwa [List.reverse_reverse] at k
theorem firsts_mem (l : List (Int × Int)) : (firsts l).Nodup ∧ ∀ x, x ∈ firsts l ↔ x ∈ l := by
  refine snoc_ind (P := fun l => (firsts l).Nodup ∧ ∀ x, x ∈ firsts l ↔ x ∈ l) ⟨by simp [firsts, enumI], fun x => by simp [firsts, enumI]⟩ (fun l x ⟨h1, h2⟩ => ?_) l
  rw [firsts_snoc]
  by_cases h : x ∈ l
  · rw [if_pos h]
    refine ⟨h1, fun y => ?_⟩
    rw [h2, List.mem_append]
    constructor
    · exact .inl
    · rintro (z | z)
      · exact z
      · have : y = x := by simpa using z
        rw [this]; exact h
  · rw [if_neg h]
    refine ⟨List.nodup_append.mpr ⟨h1, by simp, fun a ha b hb => ?_⟩, fun y => ?_⟩
    · have : b = x := by simpa using hb
      subst this
      intro z
      subst z
      exact h ((h2 a).mp ha)
    · rw [List.mem_append, List.mem_append, h2]
theorem firsts_norm (l : List (Int × Int)) : (firsts l).mergeSort le2 = norm l := by
  obtain ⟨h1, h2⟩ := firsts_mem l
  rw [← norm_nd h1]
  have p : (norm (firsts l)).Perm (norm l) := by
    refine all_of (norm_nodup _) (fun x hx => (norm_mem l x).mpr ((h2 x).mp ((norm_mem _ x).mp hx))) ?_
    have q : (norm l).Perm (firsts l) ∨ True := .inr trivial
    have k : (norm l).length ≤ (firsts l).length := by
      have : ∀ {a b : List (Int × Int)}, a.Nodup → (∀ x ∈ a, x ∈ b) → a.length ≤ b.length := fun {a b} nd sb => (List.Nodup.length_le_of_subset nd sb)
      exact this (norm_nodup l) fun x hx => (h2 x).mpr ((norm_mem l x).mp hx)
    rw [norm_len_nd h1]
    exact k
  exact sorted_uniq p (norm_sorted _) (norm_sorted _)
theorem upto_nodup (n : Int) : (upto n).Nodup := by
  unfold upto
  exact List.Pairwise.map _ (fun a b (h : a ≠ b) e => h (Int.ofNat.inj e)) List.nodup_range
theorem grid_nodup (r c : Int) : (gridCells r c).Nodup := by
  unfold gridCells
  have : ∀ l : List Int, l.Nodup → (l.flatMap fun a => (upto c).map fun b => (a, b)).Nodup := fun l => by
    induction l with
    | nil => intro _; simp
    | cons a l ih =>
      intro nd
      rw [List.flatMap_cons, List.nodup_append]
      refine ⟨?_, ih (List.nodup_cons.mp nd).2, fun x hx y hy e => ?_⟩
      · exact List.Pairwise.map _ (fun x y (h : x ≠ y) e => h (Prod.mk.inj e).2) (upto_nodup c)
      · subst e
        obtain ⟨b, _, rfl⟩ := List.mem_map.mp hx
        obtain ⟨a', ha', hb'⟩ := List.mem_flatMap.mp hy
        obtain ⟨b', _, e⟩ := List.mem_map.mp hb'
        have : a' = a := (Prod.mk.inj e).1
        subst this
        exact (List.nodup_cons.mp nd).1 ha'
  exact this _ (upto_nodup r)
end Pv
namespace Pv
open PySem PySem.Spec PyProof.Rows L2 Tl
section
variable {G : Gx}
theorem draw_p {X : Cx} {a b : Expr} {σ : L2.St} {S : Hp} {p pos : Pos} {ψ χ : Int → Prop} (on : On G X) (hr : Room 1 X.A) (d : P__law_draw G) (ha : Ev X a σ S Strm.it) (hb : EvP X b σ S ψ) (hψ : ∀ n, ψ n → 0 < n ∧ n < 1073741824) (hc : ∀ n r, ψ n → 0 ≤ r → r < n → χ r)
    (hg : Gl X "_law_draw" := by rfl) (he : starEach (a :: [b]) X.env = (false, eval a X.env) :: starEach [b] X.env := by rfl) (he2 : starEach (b :: []) X.env = (false, eval b X.env) :: starEach [] X.env := by rfl) (hpl : (backTo pos (starEach [b] X.env)).any (·.1) = false := by rfl) : EvP X (.Call (.Name "_law_draw" p) [a, b] [] pos) σ S χ :=
  evp_callA (φ := fun y : Strm × Int × Unit => ψ y.2.1) on d hr (eap_cons (evp_of ha) (eap_cons (χ := fun y : Int × Unit => ψ y.1) hb (eap_nil (φ := fun _ => True) trivial) (fun x y hx _ => hx) he2) (fun x y _ hy => hy) he) (fun y hy => hψ _ hy) (fun y z hy hz => hc _ z hy hz.1 hz.2) hg (by decide) he hpl
theorem ws_unpackP {α β : Type} [Rep α] [Rep β] {X : Cx} {e : Expr} {σ : L2.St} {S H : Hp} {De : Ends} {pos : Pos} {rest : List Stmt} {φ : α × β → Prop} {i j k : Nat} {x y : Str} {px py tp : Pos} (hc : X.calm = true) (nd : X.N.Nodup) (he : EvP X e σ S φ) (s : Tl.Sub S H)
    (q : ∀ vx vy u S' H', At S H S' H' → φ u → rep X.K X.mg S' vx u.1 → rep X.K X.mg S' vy u.2 → WSs X rest De ((σ.set i (some vx)).set j (some vy)) H')
    (hi : X.N[i]? = some x := by rfl) (hj : X.N[j]? = some y := by rfl) (lx : Loc X.env.scope x := by first | exact Or.inl rfl | exact Or.inr rfl) (ly : Loc X.env.scope y := by first | exact Or.inl rfl | exact Or.inr rfl)
    (fx : X.fn x = true ∨ X.env.scope.names.lookup x = some .local := by first | exact .inl rfl | exact .inr rfl) (fy : X.fn y = true ∨ X.env.scope.names.lookup y = some .local := by first | exact .inl rfl | exact .inr rfl)
    (hs : swapsWithSole [.Tuple [.Name x px, .Name y py] k tp] e pos.line X.env = pure false := by rfl) (hw : swappedStores [.Tuple [.Name x px, .Name y py] k tp] e X.env = pure none := by rfl)
    (h2 : (assignEach [.Name x px, .Name y py] X.env).length = 2 := by rfl) (h3 : (assignEach [.Name x px, .Name y py] X.env).findIdx? (·.1) = none := by rfl) :
    WSs X (.Assign [.Tuple [.Name x px, .Name y py] k tp] e pos :: rest) De σ H :=
  WSs.seq (WS.of (ps_asg peS (pg_tup hc (pgs_cons (pg_name nd hi lx fx) (pgs_cons (pg_name nd hj ly fy) pgs_nil)) h2 h3) hs hw) (he S H (Tl.Ext.refl S) s _ fun v S' H' a ⟨u, hu, r⟩ => by
    obtain ⟨t, v1, v2, h1, h2, hv1, hv2⟩ := r
    exact ⟨t, _, h1, a.i.tup h2, rfl, v1, _, rfl, v2, _, rfl, rfl, q v1 v2 u S' H' a hu hv1 hv2⟩))
theorem ev_inl {α β : Type} [Rep α] [Rep β] {X : Cx} {e : Expr} {σ : L2.St} {S : Hp} {x : α} (h : Ev X e σ S x) : Ev X e σ S (Sum.inl x : α ⊕ β) := fun S1 H1 e1 s Q q => h S1 H1 e1 s Q fun v S2 H2 a2 r2 => q v S2 H2 a2 r2
theorem ev_inr {α β : Type} [Rep α] [Rep β] {X : Cx} {e : Expr} {σ : L2.St} {S : Hp} {x : β} (h : Ev X e σ S x) : Ev X e σ S (Sum.inr x : α ⊕ β) := fun S1 H1 e1 s Q q => h S1 H1 e1 s Q fun v S2 H2 a2 r2 => q v S2 H2 a2 r2
abbrev P_law (G : Gx) := Df G "law" ["script"] 10 (spF G (fun x : Scr × Unit => x.1.l.length ≤ 63) fun _ => true)
abbrev N_law : List Str := ["script", "k", "stream", "rows", "columns", "cells", "before", "plan", "expected", "turn", "position", "cell"]
theorem sc_law : FnScope N_law ["script"] (defScope s_law) := ⟨rfl, rfl, rfl, by decide +kernel, rfl, by decide +kernel, by decide +kernel⟩
/-- what the law's def rests on -/
structure Lw (G : Gx) : Prop where
  b : Bf G.mg
  st : P__law_stream G
  dr : P__law_draw G
  pf : P_PlanF G
  fu : P_Plan_full G
  ro : P_Plan_rows G
  co : P_Plan_columns G
  ce : P_Plan_cells G
  le : P_PlanD_lenD G
  eq : P_PlanD_eqD G
  ct : ClsT G.K (clsAt G.mg "Plan")
  ne : OwnNe G.K (clsAt G.mg "Plan")
  iv : P__law_invalid_holds G
theorem ok_law1 (L : Lw G) {f : Addr} {cdv : Value} {A : Around} {outer : List Env} {s : Shared} {H : Hp} {E : XK} (fc : Fc G (cxF G N_law "law" (defScope s_law) f cdv A outer s H E) 9 E) {S1 H1 : Hp} {vs : V} {xs : List Int} (sb : Tl.Sub S1 H1) (hx : rep G.K G.mg S1 vs (Scr.mk xs)) {k : Int} (k0 : 0 ≤ k) (k1 : k < 1000) {De : Ends} {x2 x3 x4 x5 x6 x7 x8 x9 x10 x11 : Option V}
    (N : ∀ y2 y3 y4 y5 y6 y7 y8 y9 y10 y11 S2 H2, At S1 H1 S2 H2 → De.nx [some vs, some (.int k), y2, y3, y4, y5, y6, y7, y8, y9, y10, y11] H2) :
    WSs (cxF G N_law "law" (defScope s_law) f cdv A outer s H E) (match (defBody s_law).getD 0 (.Pass ⟨0, 0, 0, 0⟩) with | .For _ _ b _ _ => b | _ => []) De [some vs, some (.int k), x2, x3, x4, x5, x6, x7, x8, x9, x10, x11] H1 := by
  have b := L.b
  refine ws_setN (i := 2) fc.nd (en_call fc.on L.st (fc.hr.mono (by decide)) (eas_cons (ev_var 0 hx) (eas_cons (ev_var (y := k) 1 rfl) eas_nil)) ⟨k0, k1⟩) sb fun l ys S2 H2 a2 n1 n2 h2 r2 z2 => ?_
  have st : Stream (H2 l) := by
    rw [h2]
    exact strm_of (show Reps G.K G.mg S2 ys [_, _] from r2) (Int.emod_nonneg _ (by decide)) (Int.emod_lt_of_pos _ (by decide))
  obtain ⟨S3, a3, hst⟩ : ∃ S3, At S1 H1 S3 H2 ∧ rep G.K G.mg S3 (.ref l) Strm.it := ⟨_, a2.mark n1 n2 st, l, rfl, upd_same⟩
  refine ws_unpackP (α := Int) (β := Int) (φ := fun u : Int × Int => (1 ≤ u.1 ∧ u.1 ≤ 5) ∧ 1 ≤ u.2 ∧ u.2 ≤ 5) (i := 3) (j := 4) fc.calm fc.nd (evp_tup2 (φ := fun u : Int => 1 ≤ u ∧ u ≤ 5) (ψ := fun u : Int => 1 ≤ u ∧ u ≤ 5)
    (evp_add (evp_of ev_int) (draw_p (ψ := fun n => n = 5) (χ := fun r => 0 ≤ r ∧ r < 5) fc.on (fc.hr.mono (by decide)) L.dr (ev_var (y := Strm.it) 2 hst) (evp_of ev_int) (fun n h => by omega) (fun n r h h1 h2 => by omega)) (fun i j hi hj => by omega))
    (evp_add (evp_of ev_int) (draw_p (ψ := fun n => n = 5) (χ := fun r => 0 ≤ r ∧ r < 5) fc.on (fc.hr.mono (by decide)) L.dr (ev_var (y := Strm.it) 2 hst) (evp_of ev_int) (fun n h => by omega) (fun n r h h1 h2 => by omega)) (fun i j hi hj => by omega)) (fun x y h k => ⟨h, k⟩)) a3.i fun vx vy ⟨u, w⟩ S4 H4 a4 ⟨hu, hw⟩ ru rw' => ?_
  have ru : vx = .int u := ru
  have rw' : vy = .int w := rw'
  subst ru rw'
  have hst4 := rep_ext hst a4.s
  have hi : ∀ {S : Hp}, rep G.K G.mg S (.int u) u := rfl
  have hj : ∀ {S : Hp}, rep G.K G.mg S (.int w) w := rfl
  have hw1 : 1 ≤ w ∧ w ≤ 5 := hw
  have hu1 : 1 ≤ u ∧ u ≤ 5 := hu
  refine ws_setNP (α := Int × Int) (i := 5) fc.nd (enp_lc (α := Int) (x := "turn") (R := fun _ z => (0 ≤ z.1 ∧ z.1 < u) ∧ 0 ≤ z.2 ∧ z.2 < w) 9 fc.calm fc.nd
    (eip_rng1 b.range (draw_p (ψ := fun n => n = 12) (χ := fun r => 0 ≤ r ∧ r < 12) fc.on (fc.hr.mono (by decide)) L.dr (ev_var (y := Strm.it) 2 hst4) (evp_of ev_int) (fun n h => by omega) (fun n r h h1 h2 => by omega)) (fun n h => by omega))
    (fun xs ⟨n, hn, e⟩ => by rw [e, List.length_map, List.length_range]; exact le_line (by omega))
    (fun x v S' ex rv => fun s' H' C' cl' fp' => evp_tup2 (φ := fun z => 0 ≤ z ∧ z < u) (ψ := fun z => 0 ≤ z ∧ z < w)
      (draw_p (ψ := fun n => n = u) ⟨rfl, rfl, rfl, rfl, rfl⟩ (fc.hr.mono (by decide)) L.dr (ev_var (y := Strm.it) 2 (rep_ext hst4 ex)) (evp_of (ev_var (y := u) 3 hi)) (fun n h => by omega) (fun n r h h1 h2 => by omega))
      (draw_p (ψ := fun n => n = w) ⟨rfl, rfl, rfl, rfl, rfl⟩ (fc.hr.mono (by decide)) L.dr (ev_var (y := Strm.it) 2 (rep_ext hst4 ex)) (evp_of (ev_var (y := w) 4 hj)) (fun n h => by omega) (fun n r h h1 h2 => by omega)) (fun x y hx hy => ⟨hx, hy⟩))
    (ok := blkOk_by (N := N_law) (sc := defScope s_law) (by decide +kernel))) a4.i fun p ys zs S5 H5 a5 m1 m2 h5 r5 f5 z5 => ?_
  obtain ⟨xs5, ⟨n5, hn5, e5⟩, l5, hz⟩ := f5
  have hz : ∀ z ∈ zs, (0 ≤ z.1 ∧ z.1 < u) ∧ 0 ≤ z.2 ∧ z.2 < w := fun z h => let ⟨_, _, k⟩ := hz z h; k
  have hl : zs.length ≤ 12 := by rw [l5, e5, List.length_map, List.length_range]; omega
  have a6 : At S4 H4 (upd S5 p (.lst ys)) H5 := a5.settle m1 h5 m2
  have hcells : rep G.K G.mg (upd S5 p (.lst ys)) (.ref p) zs := ⟨p, ys, rfl, upd_same, r5.ext (ext_new m2), z5⟩
  generalize hT : upd S5 p (.lst ys) = T at a6 hcells
  refine ws_set (i := 6) (r := fun v S' => ∃ l, v = .ref l ∧ T l = none ∧ ∃ ys, S' l = some (.lst ys) ∧ Reps G.K G.mg S' ys zs ∧ zs.length ≤ sizeLine) fc.nd (en_list b.list (ev_var 5 hcells)).fresh a6.i fun v7 S7 H7 a7 ⟨l7, ev7, n7, ys7, h7, r7, z7⟩ => ?_
  subst ev7
  refine ws_set (i := 7) (r := fun v S' => rep G.K G.mg (fre S7 S') v (Plan.mk u w (norm zs))) fc.nd (er_makeF (y := (D.int u, D.int w, D.lst (zs.map cellD), ())) fc.on L.pf (fc.hr.mono (by decide)) (eas_cons (ev_intD (ev_var 3 hi)) (eas_cons (ev_intD (ev_var 4 hj)) (eas_cons (ev_cellsD (ev_var 5 (rep_ext hcells a7.s))) eas_nil))) trivial
    (init_ok (by omega) (by omega) hz)) a7.i fun v8 S8 H8 a8 r8 => ?_
  have c8 := rep_ext hcells (a7.s.trans a8.s)
  have u65 : (cxF G N_law "law" (defScope s_law) f cdv A outer s H E).A.units + 65 < cLine := by have := fc.hr.un; omega
  refine ws_set (i := 8) (r := fun v S' => ∃ l, v = .ref l ∧ S8 l = none ∧ ∃ ys, S' l = some (.lst ys) ∧ Reps G.K G.mg S' ys ((firsts zs).mergeSort le2) ∧ ((firsts zs).mergeSort le2).length ≤ sizeLine) fc.nd (en_sortedL fc.hr.units b.sorted (ev_lcPT (xs := enumI zs) (x := "position") (y := "cell") (f := fun q => q.2) (p := fun q => !decide (q.2 ∈ cut zs none (some q.1))) 10 11 fc.calm fc.nd
      (ei_enum b.enumerate (ev_var 5 c8)) (by rw [enumI_len]; exact le_line (by omega))
      (fun q v w S' hq ex rv rw' => fun s' H' C' cl' fp' => by
        have h1 : rep G.K G.mg S' w q.2 := rw'
        have h2 : rep G.K G.mg S' v q.1 := rv
        refine et_cmp ?_
        refine EvC.to (ec_ninD (α := Int × Int) (x := q.2) (xs := cut zs none (some q.1)) ?_ ?_ ?_) (congrArg _ (decide_eq_decide.mpr Iff.rfl))
        · exact u65
        · exact ev_var 11 h1
        · refine EvN.ev ?_
          refine en_slTo ?_ ?_
          · exact ev_var 5 (rep_ext c8 ex)
          · exact ev_var (y := q.1) 10 h2)
      (fun q v w S' hq hp ex rv rw' => fun s' H' C' cl' fp' => ev_var 11 rw') (blkOk_by (N := N_law) (sc := defScope s_law) (by decide +kernel)))).fresh a8.i fun v9 S9 H9 a9 ⟨l9, ev9, n9, ys9, h9, r9, z9⟩ => ?_
  subst ev9
  rw [firsts_norm] at r9 z9
  have s9 : Tl.Ext T S9 := a7.s.trans (a8.s.trans a9.s)
  have pT : T p = some (.lst ys) := by rw [← hT]; exact upd_same
  -- the tests before the change
  have hp9 : rep G.K G.mg S9 v8 (Plan.mk u w (norm zs)) := rep_ext (rep_ext r8 fre_ext) a9.s
  have he9 : rep G.K G.mg S9 (.ref l9) (norm zs) := ⟨l9, ys9, rfl, h9, r9, z9⟩
  have hm9 : (cxF G N_law "law" (defScope s_law) f cdv A outer s H E).A.units + 64 < cLine := fc.hr.units
  refine ws_if (t := false) (et_w (EvW.to (ew_or (et_cmp (ec_ne (ev_prop fc.on L.ro (fc.hr.mono (by decide)) (ev_var (y := Plan.mk u w (norm zs)) 7 hp9) trivial fun _ _ => plan_ins) (ev_var (y := u) 3 hi))) fun _ =>
    ew_or (et_cmp (ec_ne (ev_prop fc.on L.co (fc.hr.mono (by decide)) (ev_var (y := Plan.mk u w (norm zs)) 7 hp9) trivial fun _ _ => plan_ins) (ev_var (y := w) 4 hj))) fun _ =>
    ew_or1 (et_cmp (ec_neD fc.hr.units (en_prop fc.on L.ce (fc.hr.mono (by decide)) (ev_var (y := Plan.mk u w (norm zs)) 7 hp9) trivial fun _ _ => plan_ins).ev (ev_var (y := norm zs) 8 he9)))) (by simp))) a9.i fun S10 H10 a10 => ?_
  refine WSs.nil ?_
  have b10 : At S9 H9 S9 H10 := a10.forget
  have nl0 : 0 ≤ ((norm zs).length : Int) := Int.natCast_nonneg _
  have nl : ((norm zs).length : Int) < 2 ^ 63 := by
    have := norm_len zs
    omega
  have ne_self : (!decide (((norm zs).length : Int) = ((norm zs).length : Int))) = false := by rw [decide_eq_true rfl]; rfl
  refine ws_if (t := false) (EvB.to (et_cmp (ec_ne (ev_lenO fc.on L.le (fc.hr.mono (by decide)) b.len (ev_var (y := Plan.mk u w (norm zs)) 7 hp9) trivial (by exact nl0) (by exact nl)) (ev_len b.len (ev_var (y := norm zs) 8 he9)))) ne_self) b10.i fun S11 H11 a11 => ?_
  refine WSs.nil ?_
  have b11 := b10.trans a11.forget
  refine ws_clearN (en_prop fc.on L.ce (fc.hr.mono (by decide)) (ev_var (y := Plan.mk u w (norm zs)) 7 hp9) trivial fun _ _ => plan_ins) b11.i fun S12 H12 a12 => ?_
  have c12 : At T H5 S9 H12 := (a7.trans (a8.trans a9)).trans (b11.trans a12.forget)
  subst hT
  have h5' : H5 p = some (.lst ys) := h5
  have h12 : H12 p = some (.lst ys) := c12.hstd h5' upd_same
  have c5 : At S4 H4 (but S9 p) H12 := a5.trans (c12.thaw m2)
  refine ws_append (i := 5) (l := p) (ys := ys) (r := fun v S' => rep G.K G.mg S' v ((0, 0) : Int × Int)) rfl (ev_tup2 ev_int ev_int) c5.i h12 but_self (by rw [r5.len]; have hs : sizeLine = 16777216 := sizeLine_eq; omega) fun v13 S13 H13 a13 r13 o13 h13 => ?_
  have c14 : At S4 H4 S13 (upd H13 p (.lst (ys ++ [v13]))) := (c5.trans a13).put m1 o13
  have c15 : At S4 H4 (upd S13 p (.lst (ys ++ [v13]))) (upd H13 p (.lst (ys ++ [v13]))) := c14.settle m1 upd_same o13
  have x13 : Tl.Ext (but S9 p) (upd S13 p (.lst (ys ++ [v13]))) := a13.s.trans (ext_new o13)
  have p9 : S9 p = some (.lst ys) := s9 _ _ pT
  have hc : rep G.K G.mg (upd S13 p (.lst (ys ++ [v13]))) (.ref p) (zs ++ [((0, 0) : Int × Int)]) := ⟨p, _, rfl, upd_same, (((r5.ext ((c12.thaw m2).s)).ext a13.s).snoc r13).ext (ext_new o13), by rw [List.length_append]; exact le_line (by show zs.length + 1 ≤ 1000; omega)⟩
  have hbf : rep G.K G.mg (upd S13 p (.lst (ys ++ [v13]))) (.ref l7) zs := by
    have ne : l7 ≠ p := fun z => by rw [z, upd_same] at n7; cases n7
    have e9 : Tl.Ext S7 S9 := a8.s.trans a9.s
    exact rep_ext ⟨l7, ys7, rfl, by rw [but_ne ne]; exact e9 _ _ h7, pairs_but p9 (r7.ext e9), z7⟩ x13
  have hex : rep G.K G.mg (upd S13 p (.lst (ys ++ [v13]))) (.ref l9) (norm zs) := by
    have ne : l9 ≠ p := fun z => by
      have := (a7.s.trans a8.s) _ _ pT
      rw [← z] at this
      rw [n9] at this
      cases this
    exact rep_ext ⟨l9, ys9, rfl, by rw [but_ne ne]; exact h9, pairs_but p9 r9, z9⟩ x13
  have hpl : rep G.K G.mg (upd S13 p (.lst (ys ++ [v13]))) v8 (Plan.mk u w (norm zs)) :=
    rep_ext (rep_ext (rep_ext (rep_ext r8 (fre_mono a7.s)) fre_but) (but_mono a9.s)) x13
  generalize upd S13 p (.lst (ys ++ [v13])) = U at c15 hc hbf hex hpl
  generalize upd H13 p (.lst (ys ++ [v13])) = V at c15
  refine ws_if (t := false) (et_w (EvW.to (ew_or (et_cmp (ec_neD fc.hr.units (en_prop fc.on L.ce (fc.hr.mono (by decide)) (ev_var (y := Plan.mk u w (norm zs)) 7 hpl) trivial fun _ _ => plan_ins).ev (ev_var (y := norm zs) 8 hex))) fun _ =>
    ew_or1 (et_cmp (ec_neD fc.hr.units (en_slTo (ev_var (y := zs ++ [((0, 0) : Int × Int)]) 5 hc) (ev_neg ev_int)).ev (ev_var (y := zs) 6 hbf)))) ?_)) c15.i fun S16 H16 a16 => ?_
  · have e : cut (zs ++ [((0, 0) : Int × Int)]) none (some (-1)) = zs := by rw [cut_but, List.dropLast_concat]
    show (!decide (norm zs = norm zs) || !decide (cut (zs ++ [((0, 0) : Int × Int)]) none (some (-1)) = zs)) = false
    rw [e]
    simp
  refine WSs.nil ?_
  have b16 := c15.trans a16.forget
  have hn : ∀ z ∈ norm zs, (0 ≤ z.1 ∧ z.1 < u) ∧ 0 ≤ z.2 ∧ z.2 < w := fun z h => hz z ((norm_mem zs z).mp h)
  have hgm : G.mg "Plan" = some (.ref (clsAt G.mg "Plan")) := L.pf.mg
  -- plan != Plan(.., expected[::-1]) or plan == Plan(rows + 1, ..)
  have m1' : planInit (.int u) (.int w) (.lst ((norm zs).reverse.map cellD)) = .ok (Plan.mk u w (norm zs)) := by
    rw [init_ok (by omega) (by omega) (fun z h => hn z (List.mem_reverse.mp h)), norm_rev]
  have m2' : planInit (.int (u + 1)) (.int w) (.lst ((norm zs).map cellD)) = .ok (Plan.mk (u + 1) w (norm zs)) := by
    rw [init_ok (by omega) (by omega) (fun z h => by have := hn z h; omega), norm_norm]
  have m3' : planInit (.int u) (.int (w + 1)) (.lst ((norm zs).map cellD)) = .ok (Plan.mk u (w + 1) (norm zs)) := by
    rw [init_ok (by omega) (by omega) (fun z h => by have := hn z h; omega), norm_norm]
  refine ws_if (t := false) (et_w (EvW.to (ew_or (et_cmp (ec_ownNe (α := Plan) (z := .inl (Plan.mk u w (norm zs))) fc.on L.eq (fc.hr.mono (by decide)) L.ct L.ne (ev_var (y := Plan.mk u w (norm zs)) 7 hpl)
      (ev_inl (ev_make (y := (D.int u, D.int w, D.lst ((norm zs).reverse.map cellD), ())) fc.on L.pf.weak (fc.hr.mono (by decide)) (eas_cons (ev_intD (ev_var (y := u) 3 hi)) (eas_cons (ev_intD (ev_var (y := w) 4 hj)) (eas_cons (ev_cellsD (en_rev (ev_var (y := norm zs) 8 hex)).ev) eas_nil))) trivial m1')) trivial)) fun _ =>
    ew_or1 (et_cmp (ec_ownEq (α := Plan) (z := .inl (Plan.mk (u + 1) w (norm zs))) fc.on L.eq (fc.hr.mono (by decide)) L.ct (ev_var (y := Plan.mk u w (norm zs)) 7 hpl)
      (ev_inl (ev_make (y := (D.int (u + 1), D.int w, D.lst ((norm zs).map cellD), ())) fc.on L.pf.weak (fc.hr.mono (by decide)) (eas_cons (ev_intD (ev_add (ev_var (y := u) 3 hi) ev_int)) (eas_cons (ev_intD (ev_var (y := w) 4 hj)) (eas_cons (ev_cellsD (ev_var (y := norm zs) 8 hex)) eas_nil))) trivial m2')) trivial))) ?_)) b16.i fun S17 H17 a17 => ?_
  · show (!decide (Plan.mk u w (norm zs) = Plan.mk u w (norm zs)) || decide (Plan.mk u w (norm zs) = Plan.mk (u + 1) w (norm zs))) = false
    simp [Plan.mk.injEq]
    omega
  refine WSs.nil ?_
  have b17 := b16.trans a17.forget
  refine ws_if (t := false) (et_w (EvW.to (ew_or (et_cmp (ec_ownEq (α := Plan) (z := .inl (Plan.mk u (w + 1) (norm zs))) fc.on L.eq (fc.hr.mono (by decide)) L.ct (ev_var (y := Plan.mk u w (norm zs)) 7 hpl)
      (ev_inl (ev_make (y := (D.int u, D.int (w + 1), D.lst ((norm zs).map cellD), ())) fc.on L.pf.weak (fc.hr.mono (by decide)) (eas_cons (ev_intD (ev_var (y := u) 3 hi)) (eas_cons (ev_intD (ev_add (ev_var (y := w) 4 hj) ev_int)) (eas_cons (ev_cellsD (ev_var (y := norm zs) 8 hex)) eas_nil))) trivial m3')) trivial)) fun _ =>
    ew_or (et_cmp (ec_ownEq (α := Plan) (z := .inr (.tup [.int u, .int w, .lst ((norm zs).map cellD)])) fc.on L.eq (fc.hr.mono (by decide)) L.ct (ev_var (y := Plan.mk u w (norm zs)) 7 hpl)
      (ev_inr (ev_tupD (eds_cons (ev_intD (ev_var (y := u) 3 hi)) (eds_cons (ev_intD (ev_var (y := w) 4 hj)) (eds_cons (ev_cellsD (ev_var (y := norm zs) 8 hex)) eds_nil))))) trivial)) fun _ =>
    ew_or1 (et_cmp (ec_ownEq (α := Plan) (z := .inr .non) fc.on L.eq (fc.hr.mono (by decide)) L.ct (ev_var (y := Plan.mk u w (norm zs)) 7 hpl) (ev_inr ev_nonD) trivial))) ?_)) b17.i fun S18 H18 a18 => ?_
  · show (decide (Plan.mk u w (norm zs) = Plan.mk u (w + 1) (norm zs)) || (false || false)) = false
    simp [Plan.mk.injEq]
    omega
  refine WSs.nil ?_
  have b18 := b17.trans a18.forget
  have gl : (norm (gridCells u w)).length = u.toNat * w.toNat := by rw [norm_len_nd (grid_nodup u w), grid_len]
  have gm : ((u.toNat * w.toNat : Nat) : Int) = u * w := by
    rw [Int.natCast_mul, Int.toNat_of_nonneg (by omega), Int.toNat_of_nonneg (by omega)]
  have pf : planFull (.int u) (.int w) = .ok (Plan.mk u w (norm (gridCells u w))) := by
    unfold planFull
    rw [if_pos (by simp only [isNumber, Bool.and_eq_true, decide_eq_true_eq]; omega)]
    rfl
  have cm : CMul u w := .inl ⟨by omega, by omega⟩
  refine ws_if (t := false) (EvB.to (et_cmp (ec_ne (ev_cmp (ec_ownEq (α := Plan) (z := .inl (Plan.mk u w (norm (gridCells u w)))) fc.on L.eq (fc.hr.mono (by decide)) L.ct (ev_var (y := Plan.mk u w (norm zs)) 7 hpl)
      (ev_inl (ev_cmX (y := (D.int u, D.int w, ())) fc.on L.fu (fc.hr.mono (by decide)) (eas_cons (ev_intD (ev_var (y := u) 3 hi)) (eas_cons (ev_intD (ev_var (y := w) 4 hj)) eas_nil)) trivial pf)) trivial))
      (ev_cmp (ec_eq (ev_len b.len (ev_var (y := norm zs) 8 hex)) (ev_mul (ev_var (y := u) 3 hi) (ev_var (y := w) 4 hj) cm))))) ?_) b18.i fun S19 H19 a19 => ?_
  · show (!decide (decide (Plan.mk u w (norm zs) = Plan.mk u w (norm (gridCells u w))) = decide (((norm zs).length : Int) = u * w))) = false
    have e1 : decide (Plan.mk u w (norm zs) = Plan.mk u w (norm (gridCells u w))) = decide (norm zs = norm (gridCells u w)) := by
      rw [decide_eq_decide]; simp [Plan.mk.injEq]
    rw [e1, norm_full (grid_nodup u w) (fun x hx => mem_grid.mpr (hz x hx)), grid_len, gm]
    simp
  refine WSs.nil ?_
  have b19 := b18.trans a19.forget
  have ln0 : 0 ≤ ((norm (gridCells u w)).length : Int) := Int.natCast_nonneg _
  have lnu : u.toNat * w.toNat ≤ 5 * 5 := Nat.mul_le_mul (by omega) (by omega)
  have ln1 : ((norm (gridCells u w)).length : Int) < 2 ^ 63 := by rw [gl]; omega
  refine ws_if (t := false) (et_w (EvW.to (ew_or (et_cmp (ec_ne (ev_lenO (y := Plan.mk u w (norm (gridCells u w))) fc.on L.le (fc.hr.mono (by decide)) b.len (ev_cmX (y := (D.int u, D.int w, ())) fc.on L.fu (fc.hr.mono (by decide)) (eas_cons (ev_intD (ev_var (y := u) 3 hi)) (eas_cons (ev_intD (ev_var (y := w) 4 hj)) eas_nil)) trivial pf) trivial (by exact ln0) (by exact ln1))
      (ev_mul (ev_var (y := u) 3 hi) (ev_var (y := w) 4 hj) cm))) fun _ =>
    ew_or1 (et_not (et_val (ev_call fc.on L.iv (fc.hr.mono (by decide)) (eas_cons (ev_var (y := u) 3 hi) (eas_cons (ev_var (y := w) 4 hj) eas_nil)) ⟨⟨by show 1 ≤ u; omega, by show u ≤ 30; omega⟩, by show 1 ≤ w; omega, by show w ≤ 30; omega⟩)))) ?_)) b19.i fun S20 H20 a20 => ?_
  · show (!decide (((norm (gridCells u w)).length : Int) = u * w) || !true) = false
    rw [gl, gm]
    simp
  refine WSs.nil (WSs.nil ?_)
  have b20 := b19.trans a20.forget
  exact N _ _ _ _ _ _ _ _ _ _ _ _ (((a3.trans a4).trans b20))
theorem law_run {f : Addr} {fd : FuncData} (F : FnD G "law" "law" s_law f fd) (L : Lw G) : FnOk G.P G.w G.K G.mg G.base (L2.CX G.P G.w) 10 f fd ["script"] (spF G (fun x : Scr × Unit => x.1.l.length ≤ 63) fun _ => true) := by
  refine Fn.ok_ F sc_law (spF_len rfl) fun cdv A outer s H vs Q E fc h => ?_
  obtain ⟨S, ⟨⟨xs⟩, _⟩, sb, ⟨vx, _, rfl, hx, rfl⟩, hlen, q⟩ := h
  have hx : rep G.K G.mg S vx (Scr.mk xs) := hx
  have hlen : xs.length ≤ 63 := hlen
  have b := L.b
  refine ws_for (α := Int) (x := "k") 1 (fun _ _ σ' => ∃ x1 x2 x3 x4 x5 x6 x7 x8 x9 x10 x11, σ' = [some vx, x1, x2, x3, x4, x5, x6, x7, x8, x9, x10, x11]) fc.po fc.calm fc.nd
    (ei_rng1 b.range (ev_max2 fc.calm b.max ev_int (ev_min2 fc.calm b.min ev_int (ev_lenS b.len (ev_var 0 hx)))) (by show max 1 (min 10 (xs.length : Int)) < 2 ^ 62; omega) (by show -(2 ^ 62) ≤ max 1 (min 10 (xs.length : Int)); omega)) sb
    (fun S' H' a => ⟨_, _, _, _, _, _, _, _, _, _, _, rfl⟩) (fun k x v σ' S1 H1 hk a1 ⟨x1, x2, x3, x4, x5, x6, x7, x8, x9, x10, x11, es⟩ rv N hN => ?_) (fun σ' S1 H1 a1 ⟨x1, x2, x3, x4, x5, x6, x7, x8, x9, x10, x11, es⟩ => ?_) (fun e h => h)
  · subst es
    have rv : v = .int x := rv
    subst rv
    have hx2 : 0 ≤ x ∧ x < 1000 := by
      have := List.mem_of_getElem? hk
      obtain ⟨n, hn, rfl⟩ := List.mem_map.mp this
      have := List.mem_range.mp hn
      omega
    exact ok_law1 L fc a1.i (rep_ext hx a1.s) hx2.1 hx2.2 fun y2 y3 y4 y5 y6 y7 y8 y9 y10 y11 S2 H2 a2 => hN _ S2 H2 a2 ⟨_, _, _, _, _, _, _, _, _, _, _, rfl⟩
  · subst es
    have i1 : planInit (.int 30) (.int 30) (.lst (([] : List (Int × Int)).map cellD)) = .ok (Plan.mk 30 30 (norm [])) := init_ok (by omega) (by omega) (fun z h => by cases h)
    have i2 : planFull (.int 30) (.int 30) = .ok (Plan.mk 30 30 (norm (gridCells 30 30))) := by
      unfold planFull
      rw [if_pos (by simp [isNumber])]
      rfl
    have l1 : (norm []).length = 0 := Nat.le_zero.mp (norm_len [])
    have l2 : (norm (gridCells 30 30)).length = 900 := by rw [norm_len_nd (grid_nodup 30 30), grid_len]; rfl
    have t1 : (0 : Int) ≤ ((norm []).length : Int) := by rw [l1]; decide
    have t2 : ((norm []).length : Int) < 2 ^ 63 := by rw [l1]; decide
    have t3 : (0 : Int) ≤ ((norm (gridCells 30 30)).length : Int) := by rw [l2]; decide
    have t4 : ((norm (gridCells 30 30)).length : Int) < 2 ^ 63 := by rw [l2]; decide
    refine ws_ret (ev_and (ev_cmp (ec_eq (ev_lenO (y := Plan.mk 30 30 (norm [])) fc.on L.le (fc.hr.mono (by decide)) b.len (ev_make (y := (D.int 30, D.int 30, D.lst [], ())) fc.on L.pf.weak (fc.hr.mono (by decide)) (eas_cons ev_iD (eas_cons ev_iD (eas_cons (ev_lstD eds_nil) eas_nil))) trivial i1) trivial (by exact t1) (by exact t2)) ev_int)) fun _ =>
      ev_one (ev_cmp (ec_eq (ev_lenO (y := Plan.mk 30 30 (norm (gridCells 30 30))) fc.on L.le (fc.hr.mono (by decide)) b.len (ev_cmX (y := (D.int 30, D.int 30, ())) fc.on L.fu (fc.hr.mono (by decide)) (eas_cons ev_iD (eas_cons ev_iD eas_nil)) trivial i2) trivial (by exact t3) (by exact t4)) ev_int))) a1.i fun w S3 H3 a3 r3 => q w S3 H3 (a1.trans a3) ?_
    show rep G.K G.mg S3 w true
    have e : (decide (((norm []).length : Int) = 0) && decide (((norm (gridCells 30 30)).length : Int) = 900)) = true := by rw [l1, l2]; rfl
    rw [← e]
    exact r3
end
end Pv
namespace Pv
open PySem PySem.Spec PyProof.Rows L2 Tl
/-! #### all together -/
theorem ok_law_fn {G : Gx} {f : Addr} {fd : FuncData} (F : FnD G "law" "law" s_law f fd) (L : Lw G) : FnOk G.P G.w G.K G.mg G.base (fun _ _ _ _ _ _ => False) 10 f fd ["script"] (spF G (fun x : Scr × Unit => x.1.l.length ≤ 63) fun _ => true) :=
  ok_calm (fun vs H Q E E' h => h) (law_run F L)
theorem facts {P : Program} {w : World} {K : PySem.W.Frag} {h : Heap} {mg : Str → Option Value} (X : K.In h) (N : h.Ns mainGlobals mg) (c : SaysF fa fn K) (base : Heap) : Lw ⟨P, w, K, mg, base⟩ := by
  have fr : ∀ (i : Nat) (x : Str), fa[i]? = some (He.Fa.free x).ok → mg x = none := fun i x hi => He.free_ok X N (c.fact i hi)
  have gl : ∀ (i : Nat) (x : Str), fa[i]? = some (He.Fa.glo x).ok → mg x = some (.ref (He.ga K x)) := fun i x hi => He.glo_ok X N (c.fact i hi)
  let G : Gx := ⟨P, w, K, mg, base⟩
  have b : Bf G.mg := ⟨fr 18 _ rfl, fr 17 _ rfl, fr 15 _ rfl, fr 27 _ rfl, fr 20 _ rfl, fr 28 _ rfl, fr 25 _ rfl, fr 19 _ rfl, fr 14 _ rfl, fr 29 _ rfl, fr 24 _ rfl, fr 23 _ rfl, fr 30 _ rfl, fr 22 _ rfl, fr 21 _ rfl, fr 31 _ rfl, fr 16 _ rfl, fr 32 _ rfl⟩
  have gP := gl 5 "Plan" rfl
  have gX := gl 1 "InvalidPlan" rfl
  have gC := gl 0 "CubeError" rfl
  have eP : clsAt G.mg "Plan" = He.ga K "Plan" := clsAt_ga gP
  have eX : clsAt G.mg "InvalidPlan" = He.ga K "InvalidPlan" := clsAt_ga gX
  have eC : clsAt G.mg "CubeError" = He.ga K "CubeError" := clsAt_ga gC
  have hP : G.mg "Plan" = some (.ref (clsAt G.mg "Plan")) := by rw [eP]; exact gP
  have ms : ∃ t, G.mg "MAX_SIZE" = some (.int 30 t) := He.int_ok X N (c.fact 26 rfl)
  have pc : PlanCl G := by
    have h1 := He.cls_ok (K := K) (x := "Plan") (c.fact 6 rfl)
    have h2 := He.noat_ok (K := K) (x := "Plan") (f := "row_count") (c.fact 34 rfl)
    have h3 := He.noat_ok (K := K) (x := "Plan") (f := "column_count") (c.fact 35 rfl)
    have h4 := He.noat_ok (K := K) (x := "Plan") (f := "own_cells") (c.fact 36 rfl)
    have h5 := He.noat_ok (K := K) (x := "Plan") (f := "places") (c.fact 37 rfl)
    rw [← eP] at h1 h2 h3 h4 h5
    exact ⟨h1, h2, h3, h4, h5⟩
  have xc : Xc G "InvalidPlan" := by
    obtain ⟨h1, h2, h3, h4⟩ := He.exc_ok (K := K) (x := "InvalidPlan") (c.fact 48 rfl)
    rw [← eX] at h1 h2 h3 h4
    exact ⟨⟨_, _, _, _, PySem.F.excBase_ValueError, h1⟩, by rw [eX]; exact gX, h2, h3, h4⟩
  have xp : XPlan G := by
    obtain ⟨h1, h2⟩ := excTB_ok (K := K) (x := "InvalidPlan") (c.fact 49 rfl)
    have h3 := beq_iff_eq.mp (show (PySem.W.kitOne K (.ref (He.ga K "InvalidPlan")) (.ref (He.ga K "CubeError")) == some true) = true from c.fact 50 rfl)
    have h4 := beq_iff_eq.mp (show (PySem.W.kitOne K (.ref (He.ga K "InvalidPlan")) (.type "ValueError") == some true) = true from c.fact 51 rfl)
    rw [← eX] at h1 h2 h3 h4
    rw [← eC] at h3
    exact ⟨xc, ⟨h1, h2⟩, by rw [eC]; exact gC, h3, h4, fr 33 _ rfl⟩
  have ct : ClsT G.K (clsAt G.mg "Plan") := by rw [eP]; exact clsTB_ok (c.fact 43 rfl)
  have ne : OwnNe G.K (clsAt G.mg "Plan") := by rw [eP]; exact ownNeB_ok (c.fact 46 rfl)
  obtain ⟨f0, F0⟩ := c.def_ 0 (d := d_is_integer) rfl
  obtain ⟨f1, F1⟩ := c.def_ 1 (d := d_is_number) rfl
  obtain ⟨f2, F2⟩ := c.def_ 2 (d := d_is_pair) rfl
  obtain ⟨f3, F3⟩ := c.def_ 3 (d := d_PlanD_initD) rfl
  obtain ⟨f4, F4⟩ := c.def_ 4 (d := d_Plan_full) rfl
  obtain ⟨f5, F5⟩ := c.def_ 5 (d := d_Plan_is_place) rfl
  obtain ⟨f6, F6⟩ := c.def_ 6 (d := d_Plan_rows) rfl
  obtain ⟨f7, F7⟩ := c.def_ 7 (d := d_Plan_columns) rfl
  obtain ⟨f8, F8⟩ := c.def_ 8 (d := d_Plan_cells) rfl
  obtain ⟨f9, F9⟩ := c.def_ 9 (d := d_PlanD_lenD) rfl
  obtain ⟨f10, F10⟩ := c.def_ 10 (d := d_PlanD_eqD) rfl
  obtain ⟨f11, F11⟩ := c.def_ 11 (d := d__law_stream) rfl
  obtain ⟨f12, F12⟩ := c.def_ 12 (d := d__law_draw) rfl
  obtain ⟨f14, F14⟩ := c.def_ 14 (d := d__law_raises) rfl
  obtain ⟨f15, F15⟩ := c.def_ 15 (d := d__law_full_raises) rfl
  obtain ⟨f16, F16⟩ := c.def_ 16 (d := d__law_invalid_holds) rfl
  have p0 : P_is_integer G := ok_is_integer F0 (gl 2 _ rfl) b
  have p1 : P_is_number G := ok_is_number F1 (gl 3 _ rfl) p0
  have p2 : P_is_pair G := ok_is_pair F2 (gl 4 _ rfl) b
  have p5 : P_Plan_is_place G := ok_Plan_is_place F5 (by rw [eP]; exact He.meth_ok (c.fact 39 rfl)) pc p2 p1
  have p3 : P_PlanF G := ok_PlanD_initD F3 (by rw [eP]; exact He.mkr_ok (c.fact 38 rfl)) hP ms b pc xc p1 p5
  have p4 : P_Plan_full G := by
    obtain ⟨h1, h2⟩ := cmB_ok (K := K) (x := "Plan") (m := "full") (c.fact 47 rfl)
    exact ok_Plan_full F4 (by rw [eP]; exact h1) (by rw [eP]; exact h2) ms b xc p1 p3.weak
  have p6 : P_Plan_rows G := ok_Plan_rows F6 (by rw [eP]; exact propB_ok (c.fact 40 rfl)) pc
  have p7 : P_Plan_columns G := ok_Plan_columns F7 (by rw [eP]; exact propB_ok (c.fact 41 rfl)) pc
  have p8 : P_Plan_cells G := ok_Plan_cells F8 (by rw [eP]; exact propB_ok (c.fact 42 rfl)) pc b
  have p9 : P_PlanD_lenD G := ok_PlanD_lenD F9 (by rw [eP]; exact ownMB_ok (c.fact 45 rfl)) pc b
  have p10 : P_PlanD_eqD G := ok_PlanD_eqD F10 (by rw [eP]; exact ownMB_ok (c.fact 44 rfl)) pc ct hP b
  have p11 : P__law_stream G := ok__law_stream F11 (gl 7 _ rfl) b
  have p12 : P__law_draw G := ok__law_draw F12 (gl 8 _ rfl)
  have p14 : P__law_raises G := ok__law_raises F14 (gl 10 _ rfl) b xp p3.weak
  have p15 : P__law_full_raises G := ok__law_full_raises F15 (gl 11 _ rfl) xp p4
  have p16 : P__law_invalid_holds G := ok__law_invalid_holds F16 (gl 12 _ rfl) p14 p15
  exact ⟨b, p11, p12, p3, p4, p6, p7, p8, p9, p10, ct, ne, p16⟩
end Pv
open PySem PySem.W PySem.Calls PyProof.Rows
theorem PySem.Challenge.cw_cubeviews_k01_plans_holds : PySem.Challenge.rw_cubeviews_k01_plans.Holds := by
  w_on; o_law
  refine HandSHeadRun.head_any (r := OpenLaw.row PySem.Challenge.rw_cubeviews_k01_plans) (q := view (OpenLaw.row PySem.Challenge.rw_cubeviews_k01_plans).prog [17]) (H := Pv.hk) (ob := Pv.ob) (M := 4000) (loose := Pv.loose) (d := HandSHeadRun.topDef (OpenLaw.row PySem.Challenge.rw_cubeviews_k01_plans).prog 17) (kwd := []) Pv.ob_eq
    (by kernel_rfl) (fun s => by kernel_rfl) Pv.run (by kernel_rfl) (by kernel_rfl) (by kernel_rfl) (by rfl) (by first | assumption | decide +kernel) (by decide +kernel) ⟨rfl, rfl, rfl, rfl, rfl, by decide +kernel⟩ ?hw ?hc
  case hw => w_witness2
  case hc =>
    refine L2.walk_ofE (l := PySem.Challenge.rw_cubeviews_k01_plans) (n := 63) (k := 10) (x := "script") (CX := fun _ _ _ _ _ _ => False) rfl (by decide) (by kernel_rfl) ⟨rfl, by decide, by decide⟩ ?F (fun _ _ _ _ z => z)
    intro w mg fa h Y N hmg0
    obtain ⟨K, KX, c⟩ := Y
    have hmg : mg ("law" : PySem.Str) = some (.ref fa) := by
      have e : (HandSHeadRun.topDef (OpenLaw.row PySem.Challenge.rw_cubeviews_k01_plans).prog 17).name = ("law" : PySem.Str) := by kernel_rfl
      rw [← e]
      exact hmg0
    have e := hmg.symm.trans (He.glo_ok KX N (Tl.SaysF.fact c 13 (f := (He.Fa.glo "law").ok) rfl))
    cases e
    obtain ⟨fd, F⟩ := Tl.SaysF.def_ c 17 (d := Pv.d_law) rfl
    have b := L2.FunD.bindsA (ps := ["script"]) F fun _ _ _ _ _ _ us hl => match us, hl with | [_], _ => rfl
    refine ⟨K, fd, Tl.spF ⟨(PySem.Challenge.rw_cubeviews_k01_plans).prog, w, K, mg, h⟩ (fun x : Tl.Scr × Unit => x.1.l.length ≤ 63) fun _ => true, KX, fun s v => b s [v] rfl, fun H a ns hl _ hS => ?_, fun base _ _ => ?_⟩
    · obtain ⟨S, sb, r⟩ := Tl.scr_of (mg := mg) hS
      exact ⟨S, (⟨ns⟩, ()), sb, ⟨_, [], rfl, r, rfl⟩, hl, fun w S' H' a' r' => r'⟩
    · exact Pv.ok_law_fn (G := ⟨(PySem.Challenge.rw_cubeviews_k01_plans).prog, w, K, mg, base⟩) F (Pv.facts KX N c base)
